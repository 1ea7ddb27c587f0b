/- The typed machine is right about the light one. -/
import Derived.Test.YtcmjfplpdjflnaaGreatTAc
import Derived.KernelRfl
noncomputable section
set_option linter.unusedVariables false
set_option linter.unusedSimpArgs false
set_option linter.unusedSectionVars false
open Bool renaming and_eq_true->AF,false_and->Bm,false_eq_true->BM,not_eq_true'->BG
open List.cons renaming injEq->Cc
open List renaming drop_left'->Ck,ext_getElem?->Fg,getD_eq_getElem?_getD->BQ,getElem?_eq_some_iff->AP,getElem?_map->A2,getElem?_set->Dz,length_append->AK,length_cons->AH,length_drop->BK,length_map->An,length_nil->AN,map_append->Dn,map_cons->AJ,map_drop->CY,map_flatten->KI,map_map->D1,map_nil->BY,map_replicate->Gt,map_set->HY,map_take->Co,mem_cons->Ag,mem_cons_of_mem->Ax,mem_cons_self->Be,take_append_drop->IK,take_left'->Cx
open Nat renaming beq_refl->Mq,le_refl->Ad,lt_succ_of_lt->Jk,not_lt->OS,sub_self->D3
open Option renaming getD_some->KN,map_some->Ar
open Option.some renaming injEq->AD
namespace Lv
open Go (IntKind BinOp UnOp)
theorem AGR{γ:Type}{b:Bool}{x y:Option γ}{r:γ}(h:br b x y=some r):(b=true/\x=some r)\/(b=false/\y=some r):=by
 grind[AWl]
theorem P2{γ:Type}{p:Prop} [Decidable p] {x:Option γ} {r:γ} (h:gd p x=some r):p/\x=some r:=by
 grind[AOC]
theorem Vu{α γ:Type}{o:Option α}{f:α->Option γ}{r:γ}(h:bd o f=some r):∃a,o=some a/\f a=some r:=ob (ADa o f▸h)
theorem Xz(X:List (List T))(i j:Nat)(o:T)(k:Nat):(JA X i j o)[k]?=if k=i then (X[i]?).map (fun row=>row.set j o) else X[k]?:=by
 grind[JA,List.getElem?_eq_getElem,List.getElem?_eq_none]
theorem AMH(X:List (List T))(i j y q:Nat)(o t:T)(h:q≠j):JA (JA X y q t) i j o=JA (JA X i j o) y q t:=by
 apply Fg
 grind[Xz,List.set_comm]
theorem AMI(X:List (List T))(i j:Nat)(o t:T):JA (JA X i j t) i j o=JA X i j o:=by
 apply Fg;intro k;simp only[Xz];by_cases q:k=i
 .subst q;simp only[if_true];cases X[k]? with|none=>rfl|some row=>simp
 .simp only[AU q]
namespace Y
section
variable{R:List GF}{ρ:Type}
theorem qD(i j:Nat)(o:T):∀(q:List (Nat×Nat)) (X:List (List T)),(∀p∈q,p.2≠j)->JA (M3 X q) i j o=M3 (JA X i j o) q
 | [],X,_=>rfl|(a,b)::q,X,h=>by
  simp only[M3];rw[qD i j o q _ (fun p y=>h p (by simp[y])),AMH X i j a b o .top (h (a,b) (by simp))]
theorem ATX{c:C}{xs:List c.D}{i j:Nat}{o:U}{x y:c.D}(q:xs[i]?=some x)(h:ofC c ((cells c x).set j o)=some y):JA (xs.map (enc c)) i j o.fg=(xs.set i y).map (enc c):=by
 have B:i<xs.length:=(AP.1 q).1;apply Fg;intro k;simp only[Xz,A2,Dz];by_cases E:k=i
 .subst E;simp only[if_true,q,Ar,B,AD];rw[Ik h,FT,HY]
 grind
theorem Nz:∀{ls:List AT} {us:List U} {S:St} {K:St->Option ρ} {r:ρ},HP S ls us K=some r ->
 ∃S',Lv.HP (S.fg R) (ls.map (AT.fg R)) (us.map U.fg)=some (S'.fg R)/\BV S S'/\K S'=some r
 | [],[],S,K,r,h=>⟨S,rfl,BV.refl _,h⟩| [],u::us,S,K,r,h=>by simp[HP]at h|l::ls,[],S,K,r,h=>by cases l<;>simp[HP]at h
 |l::ls,o::us,S,K,r,h=>by
  cases l with
  |t x=>
   have h:HP S ls us K=some r:=h;obtain⟨S',y,B,E⟩:=Nz h;exact⟨S',y,B,E⟩
  |al q sub=>
   cases sub with
   |some p=>simp[HP]at h|none=>
    have h:HP (S.Bi q (.ow o)) ls us K=some r:=h;obtain⟨S',y,B,E⟩:=Nz h;refine⟨S',?_,(BV.Bi _ _ _).trans B,E⟩;rw[Gk]at y;exact y
  |vw s c xs=>
   cases s with
   |old k=>simp[HP]at h|own q p=>
    cases p with
    |none=>simp[HP]at h|some p=>
     obtain⟨i,j⟩:=p;simp only[HP]at h;split at h
     .rename_i c' rows i' Z H I;split at h
      .rename_i Q;obtain⟨rfl,G⟩:=Q;obtain⟨rfl,h⟩:=P2 h;obtain⟨x,Y,h⟩:=Vu h;split at h
       .rename_i x' L;obtain⟨S',y,B,E⟩:=Nz h;refine⟨S',?_,((BV.Bi _ _ _).trans (BV.kill _ _)).trans B,E⟩;have J:∀p∈H,p.2≠Z:=by
         intro p X;have:=List.all_eq_true.1 G p X;intro O;simp[O]at this
        simp only[AJ,AT.fg,Lv.HP,Jm,I,Ar];rw[<-Ko (RC q),Gk]at y;rw[<-y];congr 3;simp only[M3];rw[qD _ _ _ H _ J,AMI,ATX Y L];cases H with
        |nil=>simp only[AT.fg,U.fg,M3]|cons p H=>simp only[AT.fg]
       .cases h
      .cases h
     .cases h
  |_=>simp[HP]at h
theorem AVD(S0 S:Lv.St)(ms:List Md)(e:Lv.Ent)(es:List Lv.Ent)(outs:List (List T)):Lv.Fk S0 S (.b::ms) (e::es) outs=match AW8 e,outs with
 |some id,o::outs=>(match Lv.get S0.bx id,Lv.get S.bx id with
  |some ls,some j=>if o.length=j.length then Lv.Fk S0 { S with bx:=Lv.put S.bx id (o.map (Lv.EN (Lv.DW ls)))} ms es outs else none
  |_,_=>none)
 |_,_=>none:=by
 obtain⟨sh,cs⟩:=e;cases sh<;>try rfl
 rcases cs with _|⟨l,_|⟨q,ls⟩⟩
 .rfl
 .cases l<;>try rfl
  rename_i id off;cases off<;>cases outs<;>rfl
 .cases l<;>try rfl
  rename_i id off;cases off<;>rfl
theorem AWh{S0 S:St}{c:C}{ks:List PK}{e:En}{es:List En}{outs:List (List U)}{K:St->Option ρ}:Fk S0 S (.b c::ks) (e::es) outs K=match bp0 e,outs with
 |some id,o::outs=>(match get S0.bx id,get S.bx id with
  |some ls,some j=>if o.length=j.cs.length then Fk S0 (S.ON id (o.map (EN (DW ls.cs)))) ks es outs K else none|_,_=>none)
 |_,_=>none:=by
 obtain⟨sh,cs⟩:=e;cases sh<;>try rfl
 rcases cs with _|⟨l,_|⟨q,ls⟩⟩
 .rfl
 .cases l<;>try rfl
  rename_i id off;cases off<;>cases outs<;>rfl
 .cases l<;>try rfl
  rename_i id off;cases off<;>rfl
theorem Nj{S0:St}:∀{ks:List PK} {es:List En} {outs:List (List U)} {S:St} {K:St->Option ρ} {r:ρ},Fk S0 S ks es outs K=some r ->
 ∃S',Lv.Fk (S0.fg R) (S.fg R) (ks.map PK.md) (es.map (En.fg R)) (outs.map fun o=>o.map U.fg)=some (S'.fg R)/\BV S S'/\K S'=some r
 | [],es,[],S,K,r,h=>by
  refine⟨S,?_,BV.refl _,?_⟩
  .cases es<;>rfl
  .cases es<;>exact h
 | [],es,o::outs,S,K,r,h=>by cases es<;>simp[Fk]at h
 |k::ks,[],outs,S,K,r,h=>by cases outs<;>simp[Fk]at h
 |k::ks,e::es,outs,S,K,r,h=>by
  cases k with
  |b c=>
   rw[AWh]at h;simp only[AJ,PK.md];rw[AVD,AM4];split at h
   .rename_i id o outs' J;rw[J];simp only[AJ,Pz];split at h
    .rename_i ls O L E;rw[L,E];split at h
     .rename_i B;obtain⟨S',j,q,y⟩:=Nj h;refine⟨S',?_,(BV.ON _ _ _).trans q,y⟩;simp only[Ar,An,B,if_true];rw[T9,QA]at j;rw[N6];exact j
     .cases h
    .cases h
   .cases h
  |m c=>
   cases outs with
   |nil=>simp[Fk]at h|cons o outs=>
    have h:HP S e.cs o (fun S'=>Fk S0 S' ks es outs K)=some r:=h;obtain⟨S1,j,q,y⟩:=Nz (R:=R) h;obtain⟨S',G,H,I⟩:=Nj y;refine⟨S',?_,q.trans H,I⟩;simp only[AJ,PK.md,Lv.Fk,En.fg,j];exact G
  |v c=>
   have h:Fk S0 S ks es outs K=some r:=by cases outs<;>exact h
   obtain⟨S',j,q,y⟩:=Nj h;refine⟨S',?_,q,y⟩;cases outs<;>exact j
  |p c=>
   have h:Fk S0 S ks es outs K=some r:=by cases outs<;>exact h
   obtain⟨S',j,q,y⟩:=Nj h;refine⟨S',?_,q,y⟩;cases outs<;>exact j
  |o c=>
   have h:Fk S0 S ks es outs K=some r:=by cases outs<;>exact h
   obtain⟨S',j,q,y⟩:=Nj h;refine⟨S',?_,q,y⟩;cases outs<;>exact j
  |f x l=>
   have h:Fk S0 S ks es outs K=some r:=by cases outs<;>exact h
   obtain⟨S',j,q,y⟩:=Nj h;refine⟨S',?_,q,y⟩;cases outs<;>exact j
theorem lJ{S:St}{d:Nat}{ls:List AT}{K:St->Option ρ}{r:ρ}(h:QC S d ls K=some r):∃S',Lv.QC (S.fg R) d (ls.map (AT.fg R))=some (S'.fg R)/\BV S S'/\K S'=some r:=by
 unfold QC at h;split at h
 .cases h
 .rename_i j;have q:d∉(S.fg R).pin:=NZ.1 j;refine⟨_,?_,((BV.kill _ _).trans (BV.KD _ _ _ _)).trans (BV.ON _ _ _),h⟩;unfold Lv.QC;rw[AU q,T9,Lp,<-Ko (q':=fun l=>Lv.E1 d l||Lv.Fp d l) (fun l=>by rw[Xh,Xg])];rfl
theorem AVB{S:St}{e:En}{k:Nat}(h:kv S e=some k):Lv.kv (S.fg R) (e.fg R)=some k:=by
 have gen:∀(cs:List AT),(if (Fl (DW cs) cs).isSome=true then some (DW cs) else none)=some k->(if (Lv.Fl (Lv.DW (cs.map (AT.fg R))) (cs.map (AT.fg R))).isSome=true then some (Lv.DW (cs.map (AT.fg R))) else none)=some k:=by
  intro cs h;rw[N6];cases q:Fl (DW cs) cs with
  |none=>rw[q]at h;simp at h|some us=>rw[PZ q];rw[q]at h;simpa using h
 obtain⟨sh,cs⟩:=e;cases sh<;>try exact gen cs h
 rcases cs with _|⟨l,_|⟨y,ls⟩⟩
 .exact gen [] h
 .have j:=gen [l];cases l with
  |bp id off=>
   grind[kv,En.fg,AT.fg,Lv.kv,Pz]
  |_=>exact j h
 .have j:=gen (l::y::ls);cases l<;>exact j h
theorem AJC{g:GF}{S0:St}{es:List En}{k lab:Nat}(h:kx g.ps S0 es k=some lab):Lv.kx g.x (S0.fg R) (es.map (En.fg R)) k=some lab:=by
 unfold kx at h;unfold Lv.kx;rw[g.ms];simp only[A2];split at h
 .rename_i e B;rw[B];simp only[Ar];split at h
  .cases h
  .rename_i E;rw[AU]
   .exact AVB h
   .intro j;cases y:g.ps[k]? with
    |none=>rw[y]at j;simp at j|some q=>rw[y]at j;cases q<;>simp[PK.md]at j;exact E _ y
 .cases h
theorem jq:∀(cs:List C) (x:Tu cs),Qm cs x=(SD cs x).map fun l=>l.map U.fg| [],_=>rfl| [c],x=>congrArg (fun z=>[z]) (FT c x)|c::j::cs,x=>by simp only[Qm,SD,AJ,FT,jq (j::cs) x.2]
theorem AVS{d:Nat}{g:GF}{es:List En}{S0 S:St}{x:Tu (g.rk.cs++La g.ps)}{K:St->Option ρ}{r:ρ}(h:post d g es S0 S x K=some r) :
 ∃S',Lv.post d g.x (es.map (En.fg R)) (S0.fg R) (S.fg R) g.rk.sh ((Qm _ x).take g.rk.cs.length).flatten ((Qm _ x).drop g.rk.cs.length)=some (S'.fg R)/\BV S S'/\K S'=some r:=by
 unfold post at h;obtain⟨S1,J,G,j⟩:=Nj (R:=R) h;unfold Lv.post;rw[g.ms,jq,<-CY,J,<-Co,<-KI];generalize ((SD (g.rk.cs++La g.ps) x).take g.rk.cs.length).flatten=us at j;dsimp only;cases I:g.rk with
 |ptr k c=>
  rw[I]at j;simp only[RK.sh];dsimp only at j;split at j
  .rename_i lab H;rw[AJC H];obtain⟨S2,q,y,B⟩:=lJ (R:=R) j;rw[QA]at q;exact⟨S2,q,G.trans y,B⟩
  .cases j
 |vw k c=>
  rw[I]at j;simp only[RK.sh];dsimp only at j;split at j
  .rename_i lab H;rw[AJC H];obtain⟨S2,q,y,B⟩:=ch (R:=R) j;rw[QA]at q;exact⟨S2,q,G.trans y,B⟩
  .cases j
 |ret cs=>
  rw[I]at j;dsimp only at j;obtain⟨S2,q,y,B⟩:=ch (R:=R) j;rw[Zf]at q;refine⟨S2,?_,G.trans y,B⟩;simp only[RK.sh];cases E:ACv (cs.map wC) with
  |ptr k=>exfalso;revert E;unfold ACv;split<;>simp|vw k=>exfalso;revert E;unfold ACv;split<;>simp|one=>rw[E]at q;exact q|agg=>rw[E]at q;exact q|tup ns=>rw[E]at q;exact q
theorem yS{d:Nat}{g:GF}{fs:List Nat}{es:List En}{S:St}{K:St->Option ρ}{r:ρ}(hA:Al R fs (fX g.ps))(h:AGh d g fs es S K=some r) :
 ∃S1 vs cs outs S',Lv.pre g.x (es.map (En.fg R)) (S.fg R)=some (S1,vs)/\Ji g.x vs g.rk.sh cs outs/\Lv.post d g.x (es.map (En.fg R)) (S.fg R) S1 g.rk.sh cs outs=some (S'.fg R)/\BV S S'/\K S'=some r:=by
 unfold AGh at h;split at h
 .cases h
 .rename_i H;split at h
  .rename_i S1 a j;obtain⟨x,I,h⟩:=Vu h;obtain⟨q,y⟩:=AMy hA j;obtain⟨S',B,E,G⟩:=AVS (R:=R) h;refine⟨_,_,_,_,S',?_,g.ok a x I,B,y.trans E,G⟩;unfold Lv.pre;rw[g.ms];have:=yW (R:=R) g.ps [] es;rw[BY]at this;rw[this,H,AU (by decide),q]
  .cases h
end
end Y
end Lv
namespace Lv
open Go (IntKind BinOp UnOp)
namespace Y
section
variable{R:List GF}{ρ:Type}
theorem E8{S:St}{x:YO}{l:AT}(h:S.one x=some l):(S.fg R).one (x.er R)=some (AT.fg R l):=by
 unfold St.one at h;split at h
 .rename_i l' j;cases h;simp only[Lv.St.one,LL j,En.fg,AJ,BY]
 .cases h
theorem Om{S:St}{x:YO}{u:U}(h:S.sc x=some u):(S.fg R).sc (x.er R)=some u.fg:=by
 unfold St.sc AF3 at h;split at h
 .rename_i o l' j;cases h;simp only[Lv.St.sc,LL j,En.fg,AJ,BY,AT.fg,Lv.AF3]
 .cases h
theorem TG{S:St}{x:YO}{n:Int}(h:S.nat x=some n):(S.fg R).nat (x.er R)=some n:=by
 unfold St.nat at h;split at h
 .rename_i u j;simp only[Lv.St.nat,Om j];cases u<;>simp[AYP]at h<;>subst h<;>rfl
 .cases h
theorem AWz{k:Kd}{a b:U}{c:Bool}(h:eqU k a b=some c):eqT k a.fg b.fg=some c:=by
 cases k<;>cases a<;>cases b<;>simp only[eqU]at h<;>first|cases h;done|exact h
theorem AIp:∀{ks:List Kd} {as j:List U} {c:Bool},ABg ks as j=some c->Rx ks (as.map U.fg) (j.map U.fg)=some c
 | [],[],[],c,h=>h| [],[],b::j,c,h=>by simp[ABg]at h| [],a::as,j,c,h=>by cases j<;>simp[ABg]at h
 |k::ks,[],j,c,h=>by cases j<;>simp[ABg]at h
 |k::ks,a::as,[],c,h=>by simp[ABg]at h|k::ks,a::as,b::j,c,h=>by
  simp only[ABg]at h;split at h
  .rename_i x y q B;cases h;simp only[AJ,Rx,AWz q,AIp B]
  .cases h
theorem xh:∀{ls:List AT} {us:List U},Vh ls=some us->Lv.Vh (ls.map (AT.fg R))=some (us.map U.fg)
 | [],us,h=>by cases h;rfl
 |l::ls,us,h=>by
  cases l with
  |t x=>
   simp only[Vh]at h;split at h
   .rename_i q j;cases h;simp only[AJ,AT.fg,Lv.Vh,xh j,Ar]
   .cases h
  |_=>simp[Vh]at h
theorem AOD{cst:Bool}{p:Prop} [Decidable p] {x:Option ρ} {r:ρ} (h:gdc cst p x=some r):p/\x=some r:=by
 cases cst with
 |true=>simp only[gdc]at h;split at h<;>simp_all|false=>exact P2 h
theorem AU4{cst:Bool}{op:BinOp}{k:IntKind}{a b:Int}{K:U->Option ρ}{r:ρ}(h:AW5 cst op k a b K=some r):∃u,az op k a b=some (U.fg u)/\K u=some r:=by
 cases op<;>simp only[AW5]at h<;>first
  |exact⟨_,rfl,h⟩|(obtain⟨j,h⟩:=AOD h;exact⟨_,by simp only[az];rw[AU j];rfl,h⟩)
  |cases h
theorem ATb{cst:Bool}{op:BinOp}{k:IntKind}{a b:Int}{K:U->Option ρ}{r:ρ}(h:shU cst op k a b K=some r):∃u,AF4 op k a b=some (U.fg u)/\K u=some r:=by
 cases op<;>simp only[shU]at h<;>first
  |cases h;done
  |(obtain⟨j,h⟩:=AOD h;exact⟨_,by simp only[AF4];rw[AU j];rfl,h⟩)
theorem ATy(n:Int):(U.u8 (toB n)).fg=.int .u8 (IntKind.u8.wrap n):=by simp only[U.fg,AMf]
theorem AWm{op:BinOp}{a b:Int}{K:U->Option ρ}{r:ρ}(h:byU op a b K=some r):∃u,az op .u8 a b=some (U.fg u)/\K u=some r/\AU7 op=false:=by
 cases op<;>simp only[byU]at h<;>first
  |cases h;done
  |exact⟨_,by rw[ATy];rfl,h,rfl⟩|exact⟨_,rfl,h,rfl⟩
theorem sE{op:BinOp}{k j:IntKind}{a b:Int}:dO op (.int k a) (.int j b)=if AU7 op=true then AF4 op k a b else if k=j then az op k a b else none:=by
 cases op<;>rfl
theorem AUS{cst:Bool}{op:BinOp}{x y:U}{K:U->Option ρ}{r:ρ}(h:AWi cst op x y K=some r):∃u,dO op x.fg y.fg=some (U.fg u)/\K u=some r:=by
 unfold AWi at h;split at h
 .rename_i k a E b;split at h
  .rename_i B;obtain⟨u,j,q⟩:=ATb h;exact⟨u,by show dO op (.int k a) (.int E b)=_;rw[sE,AX B];exact j,q⟩
  .rename_i B;split at h
   .rename_i H;split at h
    .cases h
    .obtain⟨u,j,q⟩:=AU4 h;exact⟨u,by show dO op (.int k a) (.int E b)=_;rw[sE,AU B,AX H];exact j,q⟩
   .cases h
 .rename_i k a b;split at h
  .rename_i B;obtain⟨u,j,q⟩:=ATb h;exact⟨u,by show dO op (.int k a) (.int .u8 b.toNat)=_;rw[sE,AX B];exact j,q⟩
  .cases h
 .rename_i a b;obtain⟨u,j,q,G⟩:=AWm h;exact⟨u,by show dO op (.int .u8 a.toNat) (.int .u8 b.toNat)=_;rw[sE,AU (by simp[G]),AX rfl];exact j,q⟩
 .rename_i a b;split at h
  .obtain⟨j,h⟩:=P2 h;exact⟨_,by show (if a.length+b.length<=OI then some (T.str (a++b)) else none)=some (U.fg (.str (a++b)));rw[AX j];rfl,h⟩
  .exact⟨_,rfl,h⟩
  .exact⟨_,rfl,h⟩
  .cases h
 .cases h
theorem ADp{op:BinOp}{b:Bool}{K:U->Option ρ}{r:ρ}(h:eqK op b K=some r):∃u,nE op b=some (U.fg u)/\K u=some r:=by
 cases op<;>simp only[eqK]at h<;>first
  |cases h;done
  |exact⟨_,rfl,h⟩
theorem bC{α β:Type}{f:α->β}{xs:List α}(h:xs.isEmpty=false):∃y ys,xs.map f=y::ys:=by
 cases xs with
 |nil=>simp at h|cons x xs=>exact⟨_,_,rfl⟩
theorem AVI{S:St}{l:AT}{K:Bool->Option ρ}{r:ρ}(h:S.VN l K=some r):∃b,(S.fg R).VN (AT.fg R l)=some b/\K b=some r:=by
 unfold St.VN at h;split at h
 .exact⟨true,rfl,h⟩
 .rename_i s c xs;obtain⟨j,h⟩:=P2 h;obtain⟨y,ys,E⟩:=bC (f:=enc c) j;exact⟨false,by simp only[AT.fg,E,Lv.St.VN],h⟩
 .rename_i q;simp only[AT.fg,Lv.St.VN,Jm];split at h
  .rename_i B;rw[B];exact⟨true,rfl,h⟩
  .rename_i c xs B;rw[B];obtain⟨j,h⟩:=P2 h;obtain⟨y,ys,E⟩:=bC (f:=enc c) j;exact⟨false,by simp only[Ar,AT.fg,U.fg,E],h⟩
  .cases h
 .cases h
theorem AWj{S:St}{cst:Bool}{c:Cls}{op:BinOp}{x y:En}{K:U->Option ρ}{r:ρ}(h:S.bin cst c op x y K=some r):∃u,(S.fg R).bin c op (x.fg R) (y.fg R)=some (U.fg u)/\K u=some r:=by
 unfold St.bin at h;split at h
 .split at h
  .exact AUS h
  .cases h
 .split at h
  .exact ADp h
  .cases h
 .split at h
  .obtain⟨b,j,q⟩:=AVI (R:=R) h;obtain⟨u,B,E⟩:=ADp q;rename_i l;exact⟨u,by show (match (S.fg R).VN (AT.fg R l) with|some b=>nE op b|none=>none)=_;rw[j];exact B,E⟩
  .cases h
 .split at h
  .split at h
   .rename_i G H j q;split at h
    .rename_i b I;obtain⟨u,B,E⟩:=ADp h;refine⟨u,?_,E⟩;simp only[En.fg,Lv.St.bin,xh j,xh q,AIp I,B]
    .cases h
   .cases h
  .cases h
theorem AXp{op:UnOp}{x:U}{K:U->Option ρ}{r:ρ}(h:unU op x K=some r):∃u,unT op x.fg=some (U.fg u)/\K u=some r:=by
 unfold unU at h;split at h
 .cases op<;>simp only at h<;>first|cases h;done|exact⟨_,rfl,h⟩
 .cases op<;>simp only at h<;>first|cases h;done|(split at h;cases h;exact⟨_,rfl,h⟩)
 .cases h
theorem ARg(k:IntKind)(n:Int):(mkInt k n).fg=.int k (k.wrap n):=by cases k<;>simp only[mkInt,ATy]<;>rfl
theorem AKL:∀(n:Nat) (x:tD n),UY (.st n)=true->(AX8 n x).all flat=true|0,x,_=>rfl|1,x,h=>absurd h (by decide)|2,x,_=>rfl|3,x,_=>rfl|4,x,_=>rfl|5,x,_=>rfl|6,x,h=>absurd h (by decide)|7,x,h=>absurd h (by decide)|8,x,h=>absurd h (by decide)|9,x,_=>rfl|10,x,_=>rfl|11,x,h=>absurd h (by decide)|12,x,h=>absurd h (by decide)|13,x,h=>absurd h (by decide)|14,x,h=>absurd h (by decide)|15,x,_=>rfl|16,x,h=>absurd h (by decide)|17,x,h=>absurd h (by decide)|_+18,x,_=>rfl
theorem AKK{c:C}(h:UY c=true)(x:c.D):(enc c x).all flat=true:=by
 cases c with
 |l c=>cases h
 |m=>cases h
 |st n=>exact AKL n x h|un n=>cases h
 |_=>rfl
theorem I4{c:C}(h:UY c=true)(xs:List c.D):Gm (xs.map (enc c))=true:=by
 grind[Gm,List.all_map,List.all_eq_true,AKK]
theorem AVl{c:C}{fl:Bool}{S S':St}{l:AT}{ys:List c.D}(h:PQ c fl S l=some (S',ys)):Lv.PQ c.size fl (S.fg R) (AT.fg R l)=some (S'.fg R,ys.map (enc c))/\BV S S':=by
 unfold PQ at h;split at h
 .rename_i s;split at h
  .rename_i xs j;cases h;have y:C.u=c:=by
    simp only[Rw.as]at j;split at j
    .rename_i y;exact y
    .cases j
   subst y;have:=dK j;simp only[AT.fg,U.fg,Lv.PQ,C.size,if_true,<-this,Rw.fg];exact⟨rfl,BV.refl _⟩
  .cases h
 .cases h;exact⟨rfl,BV.refl _⟩
 .rename_i s J xs;split at h
  .rename_i G;split at h
   .rename_i I j;cases h;have y:J=c:=by
     simp only[Rw.as]at j;split at j
     .rename_i y;exact y
     .cases j
    subst y;have:=dK j;simp only[AT.fg,Lv.PQ,I4 G,and_self,if_true,<-this,Rw.fg];exact⟨trivial,BV.refl _⟩
   .cases h
  .cases h
 .rename_i q sub;simp only[AT.fg,Lv.PQ,Jm];split at h
  .rename_i x j;rw[j];split at h
   .rename_i w H;split at h
    .rename_i I E;have L:eOf c.size x.fg=true:=by
      cases x<;>simp[content]at H<;>subst H<;>simp only[U.fg,eOf];simp only[Rw.sub,Rw.as]at E;split at E
      .rename_i y;subst y;simp
      .cases E
     have B:=dK E;rw[ATh]at B;simp only[Ar,AT.fg,U1 H,L,if_true,B];cases fl with
     |true=>
      simp only[if_true]at h ⊢;split at h
      .rename_i G;cases h;rw[AX (I4 G _)];exact⟨rfl,BV.refl _⟩
      .cases h
     |false=>
      simp only[BM,if_false]at h ⊢;cases h;rw[VS];exact⟨rfl,BV.out _ _⟩
    .cases h
   .cases h
  .cases h
 .cases h
theorem AOE{e:Option (Nat×Nat)}{x:Option ρ}{r:ρ}(h:gdo e x=some r):(∀a b,e=some (a,b)->a=b)/\x=some r:=by
 cases e with
 |none=>exact⟨by intros;contradiction,h⟩
 |some p=>
  obtain⟨a,b⟩:=p;obtain⟨j,q⟩:=P2 h
  grind
theorem yJ{c:C}{S S':St}{l:AT}{b:U}{n:Nat}{e:Option (Nat×Nat)}(h:Rh c S l=some (S',b,n,e))(Q:∀a b,e=some (a,b)->a=b):Lv.Rh c.size (S.fg R) (AT.fg R l)=some (S'.fg R,b.fg,n)/\BV S S':=by
 unfold Rh at h;split at h
 .cases h;exact⟨rfl,BV.refl _⟩
 .rename_i q sub;simp only[AT.fg,Lv.Rh,Jm];split at h
  .rename_i x X;rw[X];split at h
   .rename_i w H;split at h
    .rename_i ys y;cases h;have E:eOf c.size x.fg=true:=by
      cases x<;>simp[content]at H<;>subst H<;>simp only[U.fg,eOf];simp only[Rw.as]at y;split at y
      .rename_i B;subst B;simp
      .cases y
     have I:=dK y;have G:toEnd sub (ys.map (enc c)).length=true:=by
      cases sub with
      |none=>rfl|some p=>
       obtain⟨lo,m⟩:=p;have:=Q _ _ rfl;simp[toEnd,this]
     simp only[Ar,AT.fg,U1 H,I];rw[AX ⟨E,G⟩,VS,YL];refine⟨?_,BV.out _ _⟩;rw[xg,<-Z4,An]
    .cases h
   .cases h
  .cases h
 .rename_i q i j Y xs;split at h
  .rename_i B;subst B;split at h
   .rename_i S1 J;cases h;obtain⟨L,O⟩:=AJO (R:=R) J;simp only[AT.fg,Lv.Rh,if_true,L,U.fg,An];exact⟨trivial,O⟩
   .cases h
  .cases h
 .cases h
theorem AGN{c:C}{b u:U}{ys:List c.D}(h:AUJ c b ys=some u):u.fg=AJz c.size b.fg (ys.map (enc c)):=by
 unfold AUJ at h;split at h
 .grind[U.fg,AJz]
 .rename_i j;cases h;cases b<;>simp only[U.fg,AJz];exact(j _ _ rfl).elim
end
end Y
end Lv
namespace Lv
open Go (IntKind BinOp UnOp)
theorem OH{α β:Type}(f:α->β):∀(cs ls:List α) (o:Nat),Dr (ls.map f) o (cs.map f)=(Dr ls o cs).map f
 | [],ls,o=>by cases ls<;>rfl
 |c::cs,ls,o=>by
  simp only[AJ,Dr];rw[<-HY,OH f cs]
theorem mN{α:Type}(t:α):∀(cs ls:List α) (o b:Nat),o<=b->b<o+cs.length->Dr (ls.set b t) o cs=Dr ls o cs
 | [],ls,o,b,q,j=>by simp at j;omega|c::cs,ls,o,b,q,j=>by
  simp only[Dr];by_cases h:b=o
  .subst h;rw[List.set_set]
  .rw[List.set_comm _ _ h];exact mN t cs _ _ _ (by omega) (by simp at j;omega)
namespace Y
section
variable{R:List GF}{ρ:Type}
theorem qJ(r:CD)(i:Nat):∀(j:Nat) (us:List U),(Je r i j us).map (AT.fg R)=Lv.Je r i j (us.map U.fg)|_,[]=>rfl|j,u::us=>by simp only[Je,AJ,Lv.Je,qM,qJ r i (j+1) us]
theorem sC{c:C}{xs:List c.D}{i:Int}{x:c.D}(h:at? xs i=some x):(xs.map (enc c))[i.toNat]?=some (enc c x):=AWg (enc c) h
theorem Q6{S:St}{n:Nat}{l:AT}{K:List AT->Option ρ}{r:ρ}(h:S.load n l K=some r):∃ls,(S.fg R).load n (AT.fg R l)=some (ls.map (AT.fg R))/\K ls=some r:=by
 unfold St.load at h;split at h
 .grind[AT.fg,Lv.St.load,Pz,List.length_map,AGL,List.map_take,List.map_drop]
 .rename_i q i j;simp only[AT.fg,Lv.St.load,Jm];split at h
  .rename_i c xs G;rw[G];obtain⟨x,B,h⟩:=Vu h;split at h
   .rename_i y;refine⟨_,?_,h⟩;have E:=sC B;simp only[Ar,AT.fg,U.fg,E,FT,An,y,if_true,qJ,Co,CY]
   .cases h
  .cases h
 .rename_i s cs;split at h
  .rename_i y;refine⟨_,?_,h⟩;simp only[AT.fg,Lv.St.load,An,y,if_true,AD];rw[<-Co,D1,D1];congr 1;funext u;exact(qM _ _).symm
  .cases h
 .cases h
theorem Tc:∀ls:List AT,Lv.H4 (ls.map (AT.fg R))=H4 ls
 | []=>rfl|l::ls=>by
  have j:=Tc ls;cases l with
  |t x=>cases x<;>first|rfl|exact j
  |und=>rfl|_=>exact j
theorem lU(b o n:Nat)(l:AT):Lv.IE b o n (AT.fg R l)=IE b o n l:=by
 grind[Lv.IE,IE,Kw,Qf,Nat.ble,Nat.le_of_ble_eq_true,decide_eq_false_iff_not,Nat.ble_eq_true_of_le,Nat.blt]
def ADG:List T->List (Nat×Nat)->List T|row,[]=>row|row,(_,b)::hs=>ADG (row.set b .top) hs
theorem ADI:∀(j:List (Nat×Nat)) (row:List T),(ADG row j).length=row.length| [],row=>rfl|(a,b)::j,row=>by simp only[ADG,ADI j,List.length_set]
theorem ZQ(i:Nat):∀(j:List (Nat×Nat)) (X:List (List T)) (k:Nat),(∀p∈j,p.1=i)->(M3 X j)[k]?=if k=i then (X[i]?).map (fun row=>ADG row j) else X[k]?
 | [],X,k,h=>by
  grind[M3,ADG]
 |(a,b)::j,X,k,h=>by
  have q:a=i:=h (a,b) (by simp);subst q;simp only[M3];rw[ZQ a j _ k (fun p y=>h p (by simp[y]))];simp only[Xz,if_true];split
  .cases X[a]? <;> rfl
  .rfl
theorem bM(j:Nat)(ts:List T):∀(q:List (Nat×Nat)) (row:List T),(∀p∈q,j<=p.2/\p.2<j+ts.length)->Dr (ADG row q) j ts=Dr row j ts
 | [],row,h=>rfl|(a,b)::q,row,h=>by
  simp only[ADG];rw[bM j ts q _ (fun p y=>h p (by simp[y]))];have:=h (a,b) (by simp);exact mN _ _ _ _ _ this.1 this.2
theorem kV{i j n:Nat}:∀{q:List (Nat×Nat)},Mc i j n q->(∀p∈q,p.1=i)/\(∀p∈q,j<=p.2/\p.2<j+n)
 | [],_=>⟨by simp,by simp⟩|(a,b)::q,h=>by
  obtain⟨B,E,y⟩:=h;obtain⟨G,H⟩:=kV y
  grind
theorem ATl{n:Nat}{ls:List AT}{S S':St}{ls':List AT}(h:YM n S ls=some (S',ls')):Lv.YM n (S.fg R) (ls.map (AT.fg R))=some (S'.fg R,ls'.map (AT.fg R))/\BV S S':=by
 grind[YM,Lv.YM,Nat.blt_eq,QT,BV.refl]
theorem AMZ{S:St}{n:Nat}{p:AT}{cs:List AT}{K:St->Option ρ}{r:ρ}(h:S.RX n p cs K=some r) :
 ∃S',(S.fg R).RX n (AT.fg R p) (cs.map (AT.fg R))=some (S'.fg R)/\BV S S'/\K S'=some r:=by
 unfold St.RX at h;split at h
 .rename_i id o;split at h
  .rename_i S1 E X;obtain⟨Y,J⟩:=ATl (R:=R) X;split at h
   .cases h
   .rename_i ht;dsimp only at h;split at h
    .rename_i ls hl;split at h
     .rename_i y;refine⟨_,?_,(J.trans (BV.kill _ _)).trans (BV.ON _ _ _),h⟩;simp only[AT.fg,Lv.St.RX,Y,Tc,ht,BM,if_false,An];rw[Ko (lU id o E.length),Pz,hl];simp only[Ar,An,y,if_true];rw[T9,MK (lU id o E.length),OH]
     .cases h
    .cases h
  .cases h
 .rename_i q i j;split at h
  .rename_i S1 us X;obtain⟨Y,J⟩:=Lo (R:=R) X;simp only[AT.fg,Lv.St.RX,Y,Jm];split at h
   .rename_i c xs hx;rw[hx];obtain⟨x,L,h⟩:=Vu h;split at h
    .rename_i y;split at h
     .rename_i x' B;refine⟨_,?_,(J.trans (BV.Bi _ _ _)).trans (BV.kill _ _),h⟩;have Z:=sC L;simp only[Ar,AT.fg,U.fg,Z,FT,An,y,if_true,AD];rw[<-Ko (RC q),Gk];congr 2;simp only[AT.fg,U.fg];rw[HY,Ik B,OH]
     .cases h
    .cases h
   .rename_i c xs I hx;rw[hx];obtain⟨x,L,h⟩:=Vu h;split at h
    .rename_i y;split at h
     .rename_i x' B;obtain⟨hh,h⟩:=@P2 _ _ (cU i.toNat j us.length I) _ _ h;obtain⟨hr,G⟩:=kV hh;refine⟨_,?_,(J.trans (BV.Bi _ _ _)).trans (BV.kill _ _),h⟩;have Z:=sC L;have O:=ZQ i.toNat I (xs.map (enc c)) i.toNat hr;rw[AX rfl,Z]at O;simp only[Ar]at O;simp only[Ar,AT.fg,O,ADI,OZ];have hl2:j+(us.map U.fg).length<=c.size:=by rw[An,<-Ye c x];exact y
      rw[AX hl2,<-Ko (RC q),Gk];congr 3;simp only[AT.fg,U.fg];have h7:Dr (ADG (enc c x) I) j (us.map U.fg)=enc c x':=by
       rw[bM _ _ _ _ (by rw[An];exact G),Ik B,FT,OH]
      rw[h7];congr 1;congr 1;apply Fg;intro k;have hlt:i.toNat<xs.length:=(PX L).2.2.1;have H:i.toNat<(M3 (xs.map (enc c)) I).length:=(AP.1 O).1;rw[Dz,A2,Dz];by_cases Q:i.toNat=k
      .subst Q;simp only[if_true,hlt,H,Ar]
      .rw[AU Q,AU Q,ZQ i.toNat I _ k hr,AU (fun h=>Q h.symm),A2]
     .cases h
    .cases h
   .cases h
  .cases h
 .cases h
def erP(R:List GF)(p:Nat×Nat×YO):Nat×Nat×Opd:=(p.1,p.2.1,p.2.2.er R)
theorem nn{S:St}:∀{ps:List (Nat×Nat×YO)} {ls ls':List AT},MX S ls ps=some ls'->Lv.MX (S.fg R) (ls.map (AT.fg R)) (ps.map (erP R))=some (ls'.map (AT.fg R))
 | [],ls,ls',h=>by cases h;rfl
 |(o,n,x)::ps,ls,ls',h=>by
  simp only[MX]at h;split at h
  .rename_i e q;split at h
   .rename_i j;have:=nn (ps:=ps) h;simp only[AJ,erP,Lv.MX,LL q,En.fg,An,Tc];rw[AX j,OH];exact this
   .cases h
  .cases h
def erQ(R:List GF)(p:Nat×YO):Nat×Opd:=(p.1,p.2.er R)
theorem AM5{c:C}{n:Nat}:∀{ps:List (Nat×YO)} {S S':St} {xs j:List c.D},bsK c n S xs ps=some (S',j) ->
 Lv.bsK c.size n (S.fg R) (xs.map (enc c)) (ps.map (erQ R))=some (S'.fg R,j.map (enc c))/\BV S S'
 | [],S,S',xs,j,h=>by cases h;exact⟨rfl,BV.refl _⟩
 |(i,x)::ps,S,S',xs,j,h=>by
  simp only[bsK]at h;split at h
  .rename_i e J;split at h
   .rename_i I;split at h
    .rename_i S1 us q;obtain⟨B,E⟩:=Lo (R:=R) q;split at h
     .rename_i y L;obtain⟨G,H⟩:=AM5 (ps:=ps) h;simp only[AJ,erQ,Lv.bsK,LL J,En.fg,An];rw[AX I,B];dsimp only;rw[<-Ik L,<-HY];exact⟨G,E.trans H⟩
     .cases h
    .cases h
   .cases h
  .cases h
theorem AM6{c:C}{n:Nat}{z:List T}:∀{ps:List (Nat×YO)} {S S':St} {ys:List c.D} (pre:List (List T)),bsL c n S ps=some (S',ys)->AB2 pre.length n ps=true->pre.length<=n ->
 Lv.bsK c.size n (S.fg R) (pre++List.replicate (n-pre.length) z) (ps.map (erQ R))=some (S'.fg R,pre++ys.map (enc c))/\BV S S'
 | [],S,S',ys,pre,h,j,Q=>by
  cases h;simp only[AB2,beq_iff_eq]at j;simp only[BY,Lv.bsK,j,D3,List.replicate_zero];exact⟨trivial,BV.refl _⟩
 |(i,x)::ps,S,S',ys,pre,h,j,Q=>by
  simp only[AB2,AF,beq_iff_eq]at j;obtain⟨rfl,j⟩:=j;simp only[bsL]at h;split at h
  .rename_i e O;split at h
   .rename_i L;split at h
    .rename_i S1 us B;obtain⟨E,G⟩:=Lo (R:=R) B;split at h
     .rename_i y S2 Z Y J;cases h;have q:(pre++[enc c y]).length=pre.length+1:=by simp
      obtain⟨H,I⟩:=AM6 (z:=z) (ps:=ps) (pre++[enc c y]) J (by rw[q];exact j) (by rw[q];omega);simp only[AJ,erQ,Lv.bsK,LL O,En.fg,An];rw[AX L,E];dsimp only;rw[<-Ik Y];have X:(pre++List.replicate (n-pre.length) z).set pre.length (enc c y)=(pre++[enc c y])++List.replicate (n-(pre++[enc c y]).length) z:=by
       rw[List.set_append_right _ _ (Ad _),D3,q];have:n-pre.length=(n-(pre.length+1))+1:=by omega
       rw[this,List.replicate_succ];simp
      rw[X];refine⟨?_,G.trans I⟩;simpa[erQ] using H
     .cases h
    .cases h
   .cases h
  .cases h
theorem N9{S:St}{len:Nat}{lo hi:Option YO}{K:Nat->Nat->Option ρ}{r:ρ}(h:range S len lo hi K=some r) :
 ∃a b,(S.fg R).range len (lo.map (YO.er R)) (hi.map (YO.er R))=some (a,b)/\K a b=some r/\∀{α:Type} (xs:List α),xs.length=len->part lo hi xs a b=(xs.drop a).take (b-a):=by
 unfold range at h
 grind[part,Lv.St.range,Lv.St.ARh,P2,TG,List.take_of_length_le]
theorem XS:∀(q:List (Nat×Nat)) (X:List (List T)),(M3 X q).length=X.length| [],_=>rfl|(i,j)::q,X=>by rw[M3,XS q];simp[JA]
theorem UH{S:St}{c:C}{l:AT}(h:S.wide c l=true)(y:(∃s j xs,l=.vw s j xs)\/(∃q sub,l=.al q sub)\/l=.t .nil):(S.fg R).wide c.size (AT.fg R l)=true:=by
 rcases y with ⟨s,j,xs,rfl⟩|⟨q,sub,rfl⟩|rfl
 .simp only[St.wide,decide_eq_true_eq]at h;subst h;simp[AT.fg,Lv.St.wide]
 .simp only[St.wide]at h;simp only[AT.fg,Lv.St.wide,Jm];split at h
  .rename_i x B;rw[B];simp only[Ar,AT.fg];cases x<;>simp only[U.fg,eOf];simp only[decide_eq_true_eq]at h;subst h;simp
  .grind[AT.fg,eOf]
  .cases h
 .rfl
theorem AKr{off:Nat}{p q:AT}(h:Mk off p=some q):Lv.Mk off (AT.fg R p)=some (AT.fg R q):=by
 cases p<;>simp only[Mk]at h<;>first
  |cases h;done
  |(cases h;simp only[AT.fg,Lv.Mk,CY])
theorem ARR(p:AT):Lv.St.Rm (AT.fg R p)=Rm p:=by cases p<;>rfl
theorem AWp{l:AT}{c:Cap}(h:l.AWn=some c):c.fg=AT.fg R l/\(AT.fg R l).plain=true:=by
 unfold AT.AWn at h;split at h<;>first|cases h;done|(cases h;exact⟨rfl,rfl⟩)
theorem nd:∀{es:List En} {cs:List Cap},rq es=some cs->((es.map (En.fg R)).all fun e=>Lv.AB3 e.sh&&e.cs.length==1&&e.cs.all Lv.AT.plain)=true/\(es.map (En.fg R)).flatMap Lv.Ent.cs=cs.map Cap.fg
 | [],cs,h=>by cases h;exact⟨rfl,rfl⟩
 |e::es,cs,h=>by
  unfold rq at h;split at h
  .rename_i j;cases j
  .rename_i l y j;cases j;split at h
   .rename_i c q B E;cases h;obtain⟨G,H⟩:=nd E;obtain⟨I,J⟩:=AWp (R:=R) B;constructor
    .rw[AJ,List.all_cons,G];simp[En.fg,Lv.AB3,J]
    .simp only[AJ,List.flatMap_cons,H,En.fg,BY,List.singleton_append,I]
   .cases h
  .cases h
end
end Y
end Lv
namespace Lv
open Go (IntKind BinOp UnOp)
namespace Y
section
variable{R:List GF}{ρ:Type}
def zsC(c:C):List T:=match ADR c with|some z=>enc c z|none=>[]
theorem AGI{c:C}{z:c.D}(h:ADR c=some z):zsC c=enc c z:=by unfold zsC;rw[h]
def YOp.er:YOp R->XOp|.mv d x=>.mv d (x.er R)|.as d x=>.as d (x.er R)|.pick d c a b=>.pick d (c.er R) (a.er R) (b.er R)|.alloc d zs=>.alloc d (zs.map U.fg)|.box d x=>.box d (x.er R)|.build d zs ps=>.build d (zs.map U.fg) (ps.map (erP R))|.CB d n c ps=>.CB d n (zsC c) (ps.map (erQ R))|.ld d n x=>.ld d n (x.er R)|.st n x v=>.st n (x.er R) (v.er R)|.chk d x=>.chk d (x.er R)|.bin d c op x y=>.bin d c op (x.er R) (y.er R)|.un d op x=>.un d op (x.er R)|.cvI d k x=>.cvI d k (x.er R)|.M9 d x=>.M9 d (x.er R)|.O3 d x=>.O3 d (x.er R)|.NG d n caps=>.NG d (xr R n) (caps.map (YO.er R))|.R0 d c n=>.R0 d (zsC c) (n.er R) (n.er R)|.sub d c x lo hi=>.sub d c.size (x.er R) (lo.map (YO.er R)) (hi.map (YO.er R))|.Vf d x lo hi=>.Vf d (x.er R) (lo.map (YO.er R)) (hi.map (YO.er R))|.fa d off x=>.fa d off (x.er R)|.fld d off n x=>.fld d off n (x.er R)|.ia d c x i=>.ia d c.size (x.er R) (i.er R)|.ix d x i=>.ix d (x.er R) (i.er R)|.ext d x i=>.ext d (x.er R) i|.call d g _ _ args=>.call d g.x (args.map (YO.er R))|.D5 d x ms args=>.D5 d (x.er R) ms (args.map (YO.er R))|.len d x=>.len d (x.er R)|.lens d x=>.lens d (x.er R)|.app d c fl x y=>.app d c.size fl (x.er R) (y.er R)|.SA d c x n=>.SA d (zsC c) (x.er R) (n.er R)|.cpy d c x y=>.cpy d c.size (x.er R) (y.er R)|.mm d m x y=>.mm d m (x.er R) (y.er R)|.mmk d=>.mmk d|.UK d x k=>.UK d (x.er R) (k.er R)|.TF x k v=>.TF (x.er R) (k.er R) (v.er R)|.UL d x=>.UL d (x.er R)|.bad d=>.bad d|.drop ds=>.drop ds|.VO ns=>.VO (ns.map fun p=>(p.1,p.2.size))
def Plain(o:YOp R)(S:St)(K:St->Option ρ)(r:ρ):Prop:=∃S',Lv.ev o.er (S.fg R)=some (S'.fg R)/\BV S S'/\K S'=some r
theorem Cd{o:YOp R}{S S1:St}{d:Nat}{sh:Sh}{cs:List AT}{K:St->Option ρ}{r:ρ}(h:HV S1 d sh cs K=some r)(E:BV S S1)(B:Lv.ev o.er (S.fg R)=(S1.fg R).D9 d ⟨sh,cs.map (AT.fg R)⟩):Plain o S K r:=by
 obtain⟨S',j,q,y⟩:=ch (R:=R) h;exact⟨S',B.trans j,E.trans q,y⟩
variable{S:St}{K:St->Option ρ}{r:ρ}
theorem AJL{d:Nat}{x:YO}(h:ev (.mv d x:YOp R) S K=some r):Plain (.mv d x:YOp R) S K r:=by
 simp only[ev]at h;split at h
 .rename_i e j;exact Cd h (BV.refl _) (by simp only[YOp.er,Lv.ev,LL j,En.fg])
 .cases h
theorem ARs{d:Nat}{x:YO}(h:ev (.as d x:YOp R) S K=some r):Plain (.as d x:YOp R) S K r:=by
 simp only[ev]at h;split at h
 .rename_i e B;split at h
  .rename_i S1 cs j;obtain⟨q,y⟩:=QT (R:=R) j;exact Cd h y (by simp only[YOp.er,Lv.ev,LL B,En.fg,q])
  .cases h
 .cases h
theorem wV{d:Nat}{c a b:YO}(h:ev (.pick d c a b:YOp R) S K=some r):Plain (.pick d c a b:YOp R) S K r:=by
 simp only[ev]at h;split at h
 .rename_i t ea eb q y B;rcases AGR h with ⟨rfl,j⟩|⟨rfl,j⟩
  .exact Cd j (BV.refl _) (by simp only[YOp.er,Lv.ev,Om q,LL y,LL B,U.fg,En.fg,if_true])
  .exact Cd j (BV.refl _) (by simp only[YOp.er,Lv.ev,Om q,LL y,LL B,U.fg,En.fg,BM,if_false])
 .cases h
theorem lS{d:Nat}{j:List U}(h:ev (.alloc d j:YOp R) S K=some r):Plain (.alloc d j:YOp R) S K r:=by
 simp only[ev]at h;obtain⟨S',q,y,B⟩:=lJ (R:=R) h;refine⟨S',?_,y,B⟩;rw[<-q];simp only[YOp.er,Lv.ev,Lv.QC,D1];rfl
theorem AFZ{d:Nat}{x:YO}(h:ev (.box d x:YOp R) S K=some r):Plain (.box d x:YOp R) S K r:=by
 simp only[ev]at h;split at h
 .rename_i e G;split at h
  .rename_i S1 cs j;obtain⟨q,y⟩:=AUX (R:=R) j;split at h
   .cases h
   .rename_i I;obtain⟨S',H,B,E⟩:=lJ (R:=R) h;refine⟨S',?_,y.trans B,E⟩;simp only[YOp.er,Lv.ev,LL G,En.fg,q,Tc,An]
    grind[MK,Lv.E1,Lv.Fp,Xh,Xg,Lv.QC]
  .cases h
 .cases h
theorem lT{d:Nat}{j:List U}{ps:List (Nat×Nat×YO)}(h:ev (.build d j ps:YOp R) S K=some r):Plain (.build d j ps:YOp R) S K r:=by
 simp only[ev]at h;split at h
 .rename_i ls q;have:=nn (R:=R) q;rw[D1]at this;refine Cd h (BV.refl _) ?_;simp only[YOp.er,Lv.ev,D1];rw[show (Lv.AT.t∘U.fg)=(AT.fg R∘AT.t) from rfl,this]
 .cases h
theorem Zm{d n:Nat}{c:C}{ps:List (Nat×YO)}(h:ev (.CB d n c ps:YOp R) S K=some r):Plain (.CB d n c ps:YOp R) S K r:=by
 simp only[ev]at h;split at h
 .rename_i z E;split at h
  .rename_i y;split at h
   .rename_i S1 xs j;have q:Lv.bsK c.size n (S.fg R) (rowsOf n (enc c z)) (ps.map (erQ R))=some (S1.fg R,xs.map (enc c))/\BV S S1:=by
     split at j
     .rename_i B;have:=AM6 (R:=R) (z:=enc c z) [] j B (Nat.zero_le _);simpa[rowsOf] using this
     .have:=AM5 (R:=R) j;rw[Gt]at this;exact this
    refine Cd h q.2 ?_;simp only[YOp.er,Lv.ev,AGI E,OZ];rw[AX y,q.1];rfl
   .cases h
  .cases h
 .cases h
theorem ARw{d:Nat}{n:Option Nat}{x:YO}(h:ev (.ld d n x:YOp R) S K=some r):Plain (.ld d n x:YOp R) S K r:=by
 simp only[ev]at h;split at h
 .rename_i p q;obtain⟨ls,j,h⟩:=Q6 (R:=R) h
  grind[Cd,BV.refl,YOp.er,Lv.ev,E8]
 .cases h
theorem ARx{n:Nat}{x v:YO}(h:ev (.st n x v:YOp R) S K=some r):Plain (.st n x v:YOp R) S K r:=by
 simp only[ev]at h;split at h
 .rename_i p e G E;split at h
  .rename_i B;obtain⟨S',j,q,y⟩:=AMZ (R:=R) h;refine⟨S',?_,q,y⟩;simp only[YOp.er,Lv.ev,E8 G,LL E,En.fg,An];rw[AX B,j]
  .cases h
 .cases h
theorem AFa{d:Nat}{x:YO}(h:ev (.chk d x:YOp R) S K=some r):Plain (.chk d x:YOp R) S K r:=by
 simp only[ev]at h
 grind[Cd,BV.refl,YOp.er,Lv.ev,E8,ARR]
theorem AFY{d:Nat}{c:Cls}{op:BinOp}{x y:YO}(h:ev (.bin d c op x y:YOp R) S K=some r):Plain (.bin d c op x y:YOp R) S K r:=by
 simp only[ev]at h;split at h
 .rename_i ex ey j q;obtain⟨u,B,h⟩:=AWj (R:=R) h;exact Cd h (BV.refl _) (by simp only[YOp.er,Lv.ev,LL j,LL q,B];rfl)
 .cases h
theorem ARy{d:Nat}{op:UnOp}{x:YO}(h:ev (.un d op x:YOp R) S K=some r):Plain (.un d op x:YOp R) S K r:=by
 simp only[ev]at h;split at h
 .rename_i a j;obtain⟨u,q,h⟩:=AXp h;exact Cd h (BV.refl _) (by simp only[YOp.er,Lv.ev,Om j,q];rfl)
 .cases h
theorem AFc{d:Nat}{k:IntKind}{x:YO}(h:ev (.cvI d k x:YOp R) S K=some r):Plain (.cvI d k x:YOp R) S K r:=by
 simp only[ev]at h
 grind[Cd,BV.refl,YOp.er,Lv.ev,TG,AT.fg,ARg]
theorem wG{d:Nat}{x:YO}(h:ev (.M9 d x:YOp R) S K=some r):Plain (.M9 d x:YOp R) S K r:=by
 simp only[ev]at h;split at h
 .rename_i s j;exact Cd h (BV.refl _) (by simp only[YOp.er,Lv.ev,Om j,U.fg];rfl)
 .cases h
theorem wF{d:Nat}{x:YO}(h:ev (.O3 d x:YOp R) S K=some r):Plain (.O3 d x:YOp R) S K r:=by
 simp only[ev]at h;split at h
 .rename_i l y;split at h
  .rename_i w G;split at h
   .rename_i j E;have q:=Px (R:=R) G;rw[dK E]at q;refine Cd h (BV.refl _) ?_;have B:bytesOf (j.map (enc .u))=some j:=yN j;simp only[YOp.er,Lv.ev,E8 y,q,B];rfl
   .cases h
  .cases h
 .cases h
theorem wN{d n:Nat}{caps:List YO}(h:ev (.NG d n caps:YOp R) S K=some r):Plain (.NG d n caps:YOp R) S K r:=by
 simp only[ev]at h;split at h
 .rename_i es B;split at h
  .rename_i cs y;obtain⟨j,q⟩:=nd (R:=R) y;refine Cd h (BV.refl _) ?_;simp only[YOp.er,Lv.ev,Zs B];rw[AX j,q];rfl
  .cases h
 .cases h
theorem wP{d:Nat}{c:C}{n:YO}(h:ev (.R0 d c n:YOp R) S K=some r):Plain (.R0 d c n:YOp R) S K r:=by
 simp only[ev]at h;split at h
 .grind[P2,Cd,BV.refl,YOp.er,Lv.ev,TG,AGI,OZ,rowsOf,AT.fg,U.fg,List.map_replicate]
 .cases h
theorem wW{d:Nat}{x:YO}{lo hi:Option YO}(h:ev (.Vf d x lo hi:YOp R) S K=some r):Plain (.Vf d x lo hi:YOp R) S K r:=by
 simp only[ev]at h;split at h
 .rename_i s y;obtain⟨a,b,j,h,q⟩:=N9 (R:=R) h;rw[q s rfl]at h;exact Cd h (BV.refl _) (by simp only[YOp.er,Lv.ev,Om y,U.fg,j];rfl)
 .cases h
theorem AN1{q:CD}{sub:Option (Nat×Nat)}{w:Rw}{c:C}{xs:List c.D}(h:S.elems (.al q sub)=some w)(j:w.as c=some xs):(S.fg R).elems (.al q sub)=some (xs.map (enc c)):=by
 have:=Px (R:=R) h;rw[dK j]at this;exact this
theorem AFh{d:Nat}{c:C}{x:YO}{lo hi:Option YO}(h:ev (.sub d c x lo hi:YOp R) S K=some r):Plain (.sub d c x lo hi:YOp R) S K r:=by
 simp only[ev]at h;split at h
 .rename_i l G;split at h
  .rename_i H;split at h
   .rename_i q sub;have j:=UH (R:=R) H (.inr (.inl ⟨_,_,rfl⟩));split at h
    .rename_i w I;split at h
     .rename_i xs J;obtain⟨a,b,B,h,_⟩:=N9 (R:=R) h;have E:=AN1 (R:=R) I J;have y:=E8 (R:=R) G;simp only[AT.fg]at j y;refine Cd h (BV.refl _) ?_;simp only[YOp.er,Lv.ev,y,j,if_true,E,An,B];cases sub with|none=>rfl|some p=>rfl
     .cases h
    .cases h
   .rename_i s L xs;have j:=UH (R:=R) H (.inl ⟨_,_,_,rfl⟩);obtain⟨a,b,B,h,E⟩:=N9 (R:=R) h;rw[E xs rfl]at h;have y:=E8 (R:=R) G;simp only[AT.fg]at j y;refine Cd h (BV.refl _) ?_;simp only[YOp.er,Lv.ev,y,j,if_true,Lv.St.elems,An,B,AJ,BY,AT.fg,Co,CY]
   .obtain⟨a,b,B,h,_⟩:=N9 (R:=R) h;have j:=UH (R:=R) H (.inr (.inr rfl));have y:=E8 (R:=R) G;simp only[AT.fg,U.fg]at j y;refine Cd h (BV.refl _) ?_;simp only[YOp.er,Lv.ev,y,j,if_true,Lv.St.elems,AN,B,AJ,BY,AT.fg,U.fg]
   .cases h
  .cases h
 .cases h
theorem ARt{d off:Nat}{x:YO}(h:ev (.fa d off x:YOp R) S K=some r):Plain (.fa d off x:YOp R) S K r:=by
 simp only[ev]at h;split at h
 .rename_i p j;split at h
  .rename_i q y;exact Cd h (BV.refl _) (by simp only[YOp.er,Lv.ev,E8 j,AKr y];rfl)
  .cases h
 .cases h
theorem AFe{d off:Nat}{n:Option Nat}{x:YO}(h:ev (.fld d off n x:YOp R) S K=some r):Plain (.fld d off n x:YOp R) S K r:=by
 simp only[ev]at h;split at h
 .rename_i cs q;split at h
  .rename_i j;refine Cd h (BV.refl _) ?_;simp only[YOp.er,Lv.ev,LL q,En.fg,An,j,if_true,Co,CY]
  .cases h
 .cases h
theorem ARu{d:Nat}{c:C}{x i:YO}(h:ev (.ia d c x i:YOp R) S K=some r):Plain (.ia d c x i:YOp R) S K r:=by
 simp only[ev]at h;split at h
 .rename_i l n I J;split at h
  .rename_i O;split at h
   .rename_i q sub;have j:=UH (R:=R) O (.inr (.inl ⟨_,_,rfl⟩));split at h
    .rename_i H xs X;obtain⟨y,G,h⟩:=Vu h;have L:=Px (R:=R) X;have E:=E8 (R:=R) I;simp only[AT.fg]at j E L;have B:=PX G;refine Cd h (BV.refl _) ?_;simp only[YOp.er,Lv.ev,E,TG J,L,Rw.fg,An];rw[AX ⟨j,B.1,B.2.1⟩];cases sub with
     |none=>rfl|some p=>
      obtain⟨lo,m⟩:=p;simp only[AJ,BY,AT.fg];congr 5;have:=B.1;omega
    .split at h
     .split at h
      .rename_i H xs Z Y;obtain⟨y,G,h⟩:=Vu h;have E:=E8 (R:=R) I;simp only[AT.fg]at j E;have B:=PX G;refine Cd h (BV.refl _) ?_;simp only[YOp.er,Lv.ev,E,TG J,Lv.St.elems,Jm,Y,Ar,AT.fg,Lv.content,Lv.Jg,XS,An];rw[AX ⟨j,B.1,B.2.1⟩];rfl
      .cases h
     .cases h
   .rename_i s H xs;have j:=UH (R:=R) O (.inl ⟨_,_,_,rfl⟩);obtain⟨y,G,h⟩:=Vu h;have E:=E8 (R:=R) I;simp only[AT.fg]at j E;have B:=PX G;refine Cd h (BV.refl _) ?_;simp only[YOp.er,Lv.ev,E,TG J,Lv.St.elems,An];rw[AX ⟨j,B.1,B.2.1⟩];have Q:(xs.map (enc H)).getD n.toNat []=(cells H y).map U.fg:=by
     rw[BQ,sC G,KN,FT]
    rw[Q];rfl
   .cases h
  .cases h
 .cases h
theorem ARv{d:Nat}{x i:YO}(h:ev (.ix d x i:YOp R) S K=some r):Plain (.ix d x i:YOp R) S K r:=by
 simp only[ev]at h;split at h
 .rename_i s n B q;obtain⟨y,E,h⟩:=Vu h;have j:=PX E;refine Cd h (BV.refl _) ?_;simp only[YOp.er,Lv.ev,Om B,U.fg,TG q];rw[AX ⟨j.1,j.2.1⟩];have:s.getD n.toNat 0=y:=by rw[BQ,j.2.2.2.1,KN]
  rw[this];rfl
 .cases h
theorem AFd{d:Nat}{x:YO}{i:Nat}(h:ev (.ext d x i:YOp R) S K=some r):Plain (.ext d x i:YOp R) S K r:=by
 simp only[ev]at h;split at h
 .rename_i s;split at h
  .rename_i ns cs v E;split at h
   .rename_i n G;split at h
    .rename_i B;split at h
     .rename_i S1 ls q;obtain⟨j,y⟩:=QT (R:=R) q;refine Cd h y ?_;simp only[YOp.er,YO.er,Lv.ev,XJ,E,Ar,Ent.fg,G,An,B,if_true];rw[Co,CY,rp]at j;rw[j]
     .cases h
    .cases h
   .cases h
  .cases h
 .cases h
theorem wH{d:Nat}{x:YO}(h:ev (.lens d x:YOp R) S K=some r):Plain (.lens d x:YOp R) S K r:=by
 simp only[ev]at h;split at h
 .rename_i s j;exact Cd h (BV.refl _) (by simp only[YOp.er,Lv.ev,Om j,U.fg];rfl)
 .cases h
theorem AFf{d:Nat}{x:YO}(h:ev (.len d x:YOp R) S K=some r):Plain (.len d x:YOp R) S K r:=by
 simp only[ev]at h;split at h
 .rename_i l y;split at h
  .rename_i c xs q;have j:=Px (R:=R) q;exact Cd h (BV.refl _) (by simp only[YOp.er,Lv.ev,E8 y,j,Rw.fg,An];rfl)
  .rename_i q;have j:=Px (R:=R) q;exact Cd h (BV.refl _) (by simp only[YOp.er,Lv.ev,E8 y,j,Rw.fg,AN];rfl)
  .cases h
 .cases h
theorem AFX{d:Nat}{c:C}{fl:Bool}{x y:YO}(h:ev (.app d c fl x y:YOp R) S K=some r):Plain (.app d c fl x y:YOp R) S K r:=by
 simp only[ev]at h;split at h
 .rename_i lx ly O Q;split at h
  .rename_i S1 ys j;obtain⟨q,B⟩:=AVl (R:=R) j;split at h
   .rename_i S2 b n e E;obtain⟨J,h⟩:=AOE h;obtain⟨G,H⟩:=yJ (R:=R) E J;obtain⟨I,h⟩:=P2 h;split at h
    .rename_i u L;refine Cd h (B.trans H) ?_;simp only[YOp.er,Lv.ev,E8 O,E8 Q,q,G,An];rw[AX I,<-AGN L];rfl
    .cases h
   .cases h
  .cases h
 .cases h
theorem wD{d:Nat}{c:C}{x n:YO}(h:ev (.SA d c x n:YOp R) S K=some r):Plain (.SA d c x n:YOp R) S K r:=by
 simp only[ev]at h;split at h
 .rename_i lx k z J H L;obtain⟨j,h⟩:=P2 h;split at h
  .rename_i S2 b m e q;obtain⟨G,h⟩:=AOE h;obtain⟨y,B⟩:=yJ (R:=R) q G;obtain⟨E,h⟩:=P2 h;split at h
   .rename_i u I;refine Cd h B ?_;simp only[YOp.er,Lv.ev,E8 J,TG H,AGI L,OZ];rw[AX j]
    try dsimp only
    rw[y]
    try dsimp only
    rw[AX E];have:=AGN I;rw[Gt]at this;simp only[rowsOf,<-this,AJ,BY,AT.fg]
   .cases h
  .cases h
 .cases h
theorem AFb{d:Nat}{c:C}{x y:YO}(h:ev (.cpy d c x y:YOp R) S K=some r):Plain (.cpy d c x y:YOp R) S K r:=by
 simp only[ev]at h;split at h
 .rename_i q ly hx hy;split at h
  .rename_i O B w X J;split at h
   .rename_i ys xs hys j;split at h
    .rename_i E;obtain⟨hne,h⟩:=P2 h;have Y:O=c:=by
      simp only[Rw.as]at j;split at j
      .rename_i E;exact E
      .cases j
     subst Y;have Z:B=xs:=by simp only[Rw.as]at j;simpa using j
     subst Z;have Q:=Px (R:=R) J;rw[dK hys]at Q;have h3:=E8 (R:=R) hx;simp only[AT.fg]at h3;have H:(S.fg R).wide O.size (AT.fg R ly)=true:=by
      refine UH E.1 ?_;unfold St.elems at J;split at J
      .exact .inr (.inl ⟨_,_,rfl⟩)
      .exact .inl ⟨_,_,_,rfl⟩
      .exact .inr (.inr rfl)
      .cases J
     have G:(B.map (enc O)).isEmpty=false:=by cases B<;>simp_all
     have I:=E8 (R:=R) hy;generalize AT.fg R ly=L at I Q H;refine Cd h ((BV.Bi _ _ _).trans (BV.kill _ _)) ?_;simp only[YOp.er,Lv.ev,h3,I,Jm,X,Ar,AT.fg,U.fg,Q];rw[AX ⟨trivial,H,I4 E.2 _,I4 E.2 _,G⟩,<-Ko (RC q),Gk];simp only[AT.fg,U.fg,Dn,Co,CY,An,AJ,BY]
    .cases h
   .cases h
  .cases h
 .cases h
theorem AJK{d:Nat}{m:Bool}{x y:YO}(h:ev (.mm d m x y:YOp R) S K=some r):Plain (.mm d m x y:YOp R) S K r:=by
 simp only[ev]at h;split at h
 .rename_i k a E b j q;split at h
  .rename_i B;exact Cd h (BV.refl _) (by simp only[YOp.er,Lv.ev,Om j,Om q,U.fg];rw[AX B];rfl)
  .cases h
 .cases h
theorem lF{x:YO}{q:CD}{ks:List (Int×Int)}(h:S.P9 x=some (q,ks)):(S.fg R).P9 (x.er R)=some (q,ks):=by
 unfold St.P9 at h;split at h
 .rename_i E j;split at h
  .rename_i y B;cases h;have:=E8 (R:=R) j
   grind[AT.fg,Lv.St.P9,Jm,U.fg]
  .cases h
 .cases h
theorem AFg{d:Nat}(h:ev (.mmk d:YOp R) S K=some r):Plain (.mmk d:YOp R) S K r:=by
 simp only[ev]at h;exact Cd h (BV.refl _) (by simp only[YOp.er,Lv.ev];rfl)
theorem wJ{d:Nat}{x k:YO}(h:ev (.UK d x k:YOp R) S K=some r):Plain (.UK d x k:YOp R) S K r:=by
 simp only[ev]at h;split at h
 .rename_i q ks n j y;exact Cd h (BV.refl _) (by simp only[YOp.er,Lv.ev,lF j,Om y,U.fg];rfl)
 .cases h
theorem wS{d:Nat}{x:YO}(h:ev (.UL d x:YOp R) S K=some r):Plain (.UL d x:YOp R) S K r:=by
 simp only[ev]at h;split at h
 .rename_i q ks j;exact Cd h (BV.refl _) (by simp only[YOp.er,Lv.ev,lF j];rfl)
 .cases h
theorem wT{x k v:YO}(h:ev (.TF x k v:YOp R) S K=some r):Plain (.TF x k v:YOp R) S K r:=by
 simp only[ev]at h;split at h
 .rename_i q ks n m j y B;refine⟨_,?_,(BV.Bi _ _ _).trans (BV.kill _ _),h⟩;simp only[YOp.er,Lv.ev,lF j,Om y,Om B,U.fg];rw[<-Ko (RC q),Gk];rfl
 .cases h
theorem AIr{o:YOp R}(h:ev o S K=some r):∃S',BV S S'/\K S'=some r/\∀N:Lv.St->Prop,N (S'.fg R)->opK Ji o.er (S.fg R) N:=by
 have pl:Plain o S K r->∃S',BV S S'/\K S'=some r/\∀N:Lv.St->Prop,N (S'.fg R)->opK Ji o.er (S.fg R) N:=fun ⟨S',j,q,y⟩=>⟨S',q,y,fun N hN=>.inl ⟨_,j,hN⟩⟩
 cases o with
 |mv=>exact pl (AJL h)|as=>exact pl (ARs h)|pick=>exact pl (wV h)|alloc=>exact pl (lS h)|box=>exact pl (AFZ h)|build=>exact pl (lT h)|CB=>exact pl (Zm h)|ld=>exact pl (ARw h)|st=>exact pl (ARx h)|chk=>exact pl (AFa h)|bin=>exact pl (AFY h)|un=>exact pl (ARy h)|cvI=>exact pl (AFc h)|M9=>exact pl (wG h)|O3=>exact pl (wF h)|NG=>exact pl (wN h)|R0=>exact pl (wP h)|sub=>exact pl (AFh h)|Vf=>exact pl (wW h)|fa=>exact pl (ARt h)|fld=>exact pl (AFe h)|ia=>exact pl (ARu h)|ix=>exact pl (ARv h)|ext=>exact pl (AFd h)|len=>exact pl (AFf h)|lens=>exact pl (wH h)|app=>exact pl (AFX h)|SA=>exact pl (wD h)|cpy=>exact pl (AFb h)|mm=>exact pl (AJK h)|mmk=>exact pl (AFg h)|UK=>exact pl (wJ h)|TF=>exact pl (wT h)|UL=>exact pl (wS h)|bad=>simp[ev]at h|drop Q=>exact pl ⟨_,by simp only[YOp.er,Lv.ev,ABc],BV.IS _ _,h⟩|VO ns=>exact pl ⟨_,by simp only[YOp.er,Lv.ev,va],BV.RA _ _,h⟩|call d g fs I args=>
  simp only[ev]at h;split at h
  .rename_i es G;obtain⟨S1,vs,cs,outs,S',j,q,y,B,E⟩:=yS (Al.of I) h;refine⟨S',B,E,fun N hN=>.inr ⟨d,g.x,es.map (En.fg R),S1,vs,_,cs,outs,_,?_,j,q,y,hN⟩⟩;simp only[YOp.er,Lv.Ft,Zs G]
  .cases h
 |D5 d x ms args=>
  simp only[ev]at h;split at h
  .rename_i n caps es H G;split at h
   .rename_i g J;split at h
    .rename_i L;obtain⟨S1,vs,cs,outs,S',j,q,y,B,E⟩:=yS (Al.nil _) h;refine⟨S',B,E,fun N hN=>.inr ⟨d,g.x,_,S1,vs,_,cs,outs,_,?_,j,q,y,hN⟩⟩;have O:xr R n=g.x:=by unfold xr;rw[J]
     simp only[YOp.er,Lv.Ft,E8 H,Zs G,AT.fg,O];rw[AX (by rw[g.ms,L])];simp only[Dn,D1,AD,Prod.mk.injEq,true_and,List.append_cancel_left_eq];apply List.map_congr_left;intro c _;simp only[Function.comp,En.fg,AJ,BY,aF]
    .cases h
   .cases h
  .cases h
end
end Y
end Lv
namespace Lv
open Go (IntKind BinOp UnOp)
namespace Y
section
variable{R:List GF}{ρ:Type}
def Bu.er:Bu R->Rv|.nil=>.nil|.op i g sf o rest=>.op i g sf o.er rest.er|.dr ds rest=>.dr ds rest.er|.nl ns rest=>.nl (ns.map fun p=>(p.1,p.2.size)) rest.er|.both _ a b=>.both a.er b.er
def Gn.er:Gn R->Ng|.skip=>.skip|.region ops _=>.region (ops.map fun p=>(p.1,p.2.er)) []|.U5 r _=>.U5 r.er []|.seq a b=>.seq a.er b.er|.join _ a b=>.seq a.er b.er|.cond c _ _ t e=>.cond c [] [] t.er e.er|.block id b=>.block id b.er|.loop _ b=>.loop b.er|.exit id=>.exit id|.ret=>.ret|.scope b=>.scope b.er|.or a b=>.or a.er b.er|.dead=>.dead|.AVR _ b=>.loop b.er
theorem AWv(o:YOp R):o.er.jm=o.jm:=by cases o<;>rfl
theorem mQ{o:YOp R}{S:St}{K:St->Option ρ}{r:ρ}(h:MS o S K=some r):∃S',Lv.MS o.er (S.fg R)=some (S'.fg R)/\BV S S'/\K S'=some r:=by
 unfold MS at h;unfold Lv.MS;rw[AWv];split at h
 .rename_i d B;obtain⟨S',j,q,y⟩:=ch (R:=R) h;rw[B];exact⟨S',j,q,y⟩
 grind[BV.refl]
theorem ATI{s:Nat}{e x:Ent}:∀{l:List (Nat×Ent)},get l s=some x->e.fg R=x.fg R->fgE R (reE s e l)=fgE R l
 | [],h,_=>rfl|(k,y)::l,h,q=>by
  simp only[get]at h;simp only[reE];cases j:Nat.beq k s with
  |true=>rw[j]at h;cases h;simp only[fgE,AJ,q]
  |false=>
   rw[j]at h;have:=ATI (l:=l) h q
   grind[fgE]
theorem AIv{s:Nat}{e:Ent}:∀{l:List (Nat×Ent)} {k:Nat} {y:Ent},get (reE s e l) k=some y->y=e\/get l k=some y
 | [],k,y,h=>.inr h|(j,x)::l,k,y,h=>by
  simp only[reE]at h;cases B:Nat.beq j s with
  |true=>
   grind[get,Nat.beq]
  |false=>
   rw[B]at h;simp only[get]at h ⊢;cases q:Nat.beq j k with
   |true=>rw[q]at h;exact .inr h|false=>rw[q]at h;exact AIv h
theorem AXC{S:St}{s:Nat}{b:Bool}{v:Nat}(h:get S.tm s=some ⟨.one,[.t (.bool b)],v⟩):(S.lit s b).fg R=S.fg R/\BV S (S.lit s b):=by
 refine⟨?_,by simp[St.lit],fun k e q y=>?_,fun _ _ h _=>h,rfl⟩
 .simp only[St.fg,St.lit];have:=ATI (R:=R) (e:=⟨.one,[.t (.bool b)],S.nv⟩) h rfl;rw[this]
 .rcases AIv q with rfl|j
  .grind
  .exact j
def Gd(R:List GF)(g:Option (Nat×Bool))(o:YOp R)(S:Lv.St)(N:Lv.St->Prop):Prop:=
 ∃b,Lv.wanted S g=some b/\((b=true/\opK Ji o.er S N)\/(b=false/\∃S',Lv.MS o.er S=some S'/\N S'))
theorem rY{S:St}{s:Nat}{w b:Bool}{v:Nat}(h:get S.tm s=some ⟨.one,[.t (.bool b)],v⟩):Lv.wanted (S.fg R) (some (s,w))=some (b==w):=by
 simp only[Lv.wanted,XJ,h];rfl
theorem ADN{S:St}{s:Nat}{w:Bool}{v:Nat}(h:get S.tm s=some ⟨.one,[.und],v⟩):Lv.wanted (S.fg R) (some (s,w))=some false:=by
 simp only[Lv.wanted,XJ,h];rfl
theorem Td{S:St}{s:Nat}{w b:Bool}{v:Nat}{o:YOp R}{f:Option ρ}{K:St->Option ρ}{r:ρ}{P:Lv.St->(Lv.St->Prop)->Prop}(y:get S.tm s=some ⟨.one,[.t (.bool b)],v⟩)(x:Bool)(G:x=(b==w))
 (h:lW x o (S.lit s b) f K=some r) (H:f=some r->∃S',BV (S.lit s b) S'/\K S'=some r/\∀N:Lv.St->Prop,N (S'.fg R)->P ((S.lit s b).fg R) N) :
 ∃S',BV S S'/\K S'=some r/\∀N:Lv.St->Prop,N (S'.fg R)->∃b,Lv.wanted (S.fg R) (some (s,w))=some b/\((b=true/\P (S.fg R) N)\/(b=false/\∃S',Lv.MS o.er (S.fg R)=some S'/\N S')):=by
 obtain⟨I,E⟩:=AXC (R:=R) y;cases x with
 |true=>
  obtain⟨S',j,q,B⟩:=H h;refine⟨S',E.trans j,q,fun N hN=>⟨_,rY y,.inl ⟨G.symm,?_⟩⟩⟩
  grind
 |false=>
  obtain⟨S',j,q,B⟩:=mQ (R:=R) h;refine⟨S',E.trans q,B,fun N hN=>⟨_,rY y,.inr ⟨G.symm,_,?_,hN⟩⟩⟩
  rwa[I]at j
theorem AW0{g:Option (Nat×Bool)}{o:YOp R}{S:St}{K:St->Option ρ}{r:ρ}(h:evg g o S K=some r) :
 ∃S',BV S S'/\K S'=some r/\∀N:Lv.St->Prop,N (S'.fg R)->Gd R g o (S.fg R) N:=by
 unfold evg at h;split at h
 .obtain⟨S',y,B,E⟩:=AIr h;exact⟨S',y,B,fun N hN=>⟨true,rfl,.inl ⟨rfl,E N hN⟩⟩⟩
 .rename_i s w;split at h
  .rename_i b v j;rcases AGR h with ⟨rfl,q⟩|⟨rfl,q⟩
   .exact Td (P:=opK Ji o.er) j w (by cases w<;>rfl) q fun G=>AIr G
   .exact Td (P:=opK Ji o.er) j (!w) (by cases w<;>rfl) q fun G=>AIr G
  .rename_i v j;obtain⟨S',y,B,E⟩:=mQ (R:=R) h;exact⟨S',B,E,fun N hN=>⟨false,ADN j,.inr ⟨rfl,_,y,hN⟩⟩⟩
  .cases h
theorem AN3:∀{ops:List (Option (Nat×Bool)×YOp R)} {S:St} {K:St->Option ρ} {r:ρ},evs ops S K=some r ->
 ∃S',BV S S'/\K S'=some r/\∀N:Lv.St->Prop,N (S'.fg R)->AFj Ji (ops.map fun p=>(p.1,p.2.er)) (S.fg R) N
 | [],S,K,r,h=>⟨S,BV.refl _,h,fun N hN=>hN⟩|(g,o)::ops,S,K,r,h=>by
  have j:evg g o S (fun S'=>evs ops S' K)=some r:=by
   grind[evs,E5]
  obtain⟨S1,q,y,B⟩:=AW0 j;obtain⟨S2,E,G,H⟩:=AN3 y;exact⟨S2,q.trans E,G,fun N hN=>B _ (H N hN)⟩
theorem AYt(o:YOp R):o.er.wr=o.wr.map (YO.er R):=by cases o<;>rfl
theorem Ya(l:AT):∀(ks:List PK) (es:List En),Lv.J6 (AT.fg R l) (ks.map PK.md) (es.map (En.fg R))=J6 l ks es
 | [],es=>by cases es<;>rfl
 |k::ks,[]=>rfl|k::ks,e::es=>by
  simp only[AJ,Lv.J6,J6,rb,En.fg,List.all_map,Function.comp_def,AML,Ya l ks es]
theorem AUy{S:St}{l:AT}(h:S.N0 l=true):(S.fg R).N0 (AT.fg R l)=true:=by
 unfold St.N0 at h;split at h
 .simp only[AT.fg,Lv.St.N0,Pz,Option.isSome_map];exact h
 .rfl
 .rename_i s cs;cases cs<;>simp_all[AT.fg,Lv.St.N0]
 .grind[AT.fg,Lv.St.N0,Jm,AU8]
 .rfl
 .rfl
 .cases h
theorem yT{o:YOp R}{S:Lv.St}(j:∀d g fs y args,o≠.call d g fs y args)(q:∀d x ms args,o≠.D5 d x ms args):Lv.Ft o.er S=none:=by
 cases o<;>first|rfl|(exact(j _ _ _ _ _ rfl).elim)|(exact(q _ _ _ _ rfl).elim)
theorem ATU{o:YOp R}{S:St}{l:AT}(h:Um o S l=true):Lv.Um o.er (S.fg R) (AT.fg R l)=true:=by
 unfold Um at h;simp only[AF]at h;obtain⟨X,q⟩:=h;unfold Lv.Um;rw[AUy X,Bool.true_and];have E:(AT.fg R l).Bz=l.Bz:=Kw l;have gen:(∀d g fs Q args,o≠.call d g fs Q args)->(∀d x ms args,o≠.D5 d x ms args) ->
  (match o.wr with|some y=>(match S.one y with|some lt=>l.Bz.isNone||!(match l.Bz with|some r=>isR lt.Bz r|none=>lt.Bz.isNone)|none=>false)|none=>true)=true ->
  (match Lv.Ft o.er (S.fg R) with
  |some (_,f,es)=>Lv.J6 (AT.fg R l) (Ef f) es|none=>match o.er.wr with
   |some y=>(match (S.fg R).one y with|some lt=>(AT.fg R l).Bz.isNone||decide ((AT.fg R l).Bz≠lt.Bz)|none=>true)
   |none=>true)=true:=by
  intro n1 n2 h;rw[yT n1 n2,AYt];cases hy:o.wr with
  |none=>rfl|some y=>
   rw[hy]at h;dsimp only at h;cases B:S.one y with
   |none=>rw[B]at h;cases h
   |some lt=>
    rw[B]at h;dsimp only at h ⊢;simp only[Ar,E8 B];rw[E,Kw,decide_not,<-ATQ];exact h
 cases o with
 |st n x v=>
  dsimp only at q;have H:Lv.names (AT.fg R l)=names l:=lI l;generalize AT.fg R l=L at H E ⊢;cases B:S.one x with
  |none=>rw[B]at q;cases q
  |some lp=>
   rw[B]at q;have G:=E8 (R:=R) B;simp only[YOp.er,G];cases lp with
   |bp id o=>
    dsimp only at q;show (!(Lv.names L).contains id)=true;rw[H,List.contains_eq_mem,<-T1];exact q
   |ep r0 i j=>
    dsimp only at q;show decide (L.Bz≠some r0)=true;rw[E];rw[ZU]at q;simpa using q
   |_=>cases q
 |call d g fs Q args=>
  dsimp only at q;cases J:S.rds args with
  |none=>rw[J]at q;cases q
  |some es=>
   rw[J]at q;have G:=Ya (R:=R) l g.ps es;generalize AT.fg R l=L at G ⊢;simp only[YOp.er,Lv.Ft,Zs J,g.ms];rw[G];exact q
 |D5 d x ms args=>
  dsimp only at q;split at q
  .rename_i n caps es H Y;split at q
   .rename_i g Z;split at q
    .rename_i h7;have hx:xr R n=g.x:=by unfold xr;rw[Z]
     have I:=Ya (R:=R) l g.ps (es++caps.map fun l=>⟨.one,[l.leaf]⟩);rw[Dn,D1]at I;rw[show (En.fg R∘fun l=>(⟨.one,[l.leaf]⟩:En))=((fun l=>(⟨Sh.one,[l]⟩:Lv.Ent))∘Cap.fg) from by funext c;simp only[Function.comp,En.fg,AJ,BY,aF],<-D1]at I;have O:=E8 (R:=R) H;simp only[AT.fg,hx]at O;generalize AT.fg R l=L at I ⊢;simp only[YOp.er,Lv.Ft,O,Zs Y];rw[AX (by rw[g.ms,h7])];dsimp only;rw[g.ms,I];exact q
    .cases q
   .cases q
  .cases q
 |_=>exact gen (by intros;simp) (by intros;simp) q
theorem ACp{o:YOp R}{S:St}:∀{sf:List Nat},Ju o S sf=true->Lv.Ju o.er (S.fg R) sf=true
 | [],h=>rfl|s::sf,h=>by
  simp only[Ju,AF]at h;obtain⟨j,q⟩:=h;simp only[Lv.Ju,AF];refine⟨?_,ACp q⟩;split at j
  .rename_i l y;have:=E8 (R:=R) y
   grind[YO.er,ATU]
  .cases j
theorem tL:∀{a b:List (Option Nat)},AKI a b=true->a=b
 | [],[],_=>rfl|none::r,none::r',h=>by simp only[AKI]at h;rw[tL h]|some a::r,some b::r',h=>by simp only[AKI,AF]at h;rw[beq_true h.1,tL h.2]| [],_::_,h=>by cases h
 |none::_,[],h=>by cases h
 |some _::_,[],h=>by cases h
 |none::_,some _::_,h=>by cases h
 |some _::_,none::_,h=>by cases h
theorem AUt{a b:Sh}(h:AWy a b=true):a=b:=by
 cases a<;>cases b<;>first|rfl|(cases h;done)|(simp only[AWy]at h;first|rw[tL h]|rw[beq_true h])
theorem ABf:∀{a b:Option (Nat×Nat)},AIo a b=true->a=b
 |none,none,_=>rfl|some (a,b),some (j,q),h=>by simp only[AIo,AF]at h;rw[beq_true h.1,beq_true h.2]|none,some _,h=>by cases h
 |some _,none,h=>by cases h
theorem Zu:∀{a b:CD},CD.is a b=true->a=b
 |.tmp s c,.tmp s' j,h=>by
  grind[CD.is,beq_true]
 |.cell s c,.cell s' j,h=>by
  simp only[CD.is]at h
  grind[beq_true]
 |.tmp _ _,.cell _ _,h=>by cases h
 |.cell _ _,.tmp _ _,h=>by cases h
theorem ABe{a b:Src}(h:AIn a b=true):a=b:=by
 cases a<;>cases b<;>simp only[AIn,AF]at h<;>first|(cases h;done)|rw[Zu h.1,ABf h.2]|rw[beq_true h]
theorem AIm:∀{a b:List (Nat×Nat)},AUs a b=true->a=b
 | [],[],_=>rfl|(a,b)::r,(j,q)::r',h=>by simp only[AUs,AF]at h;rw[beq_true h.1.1,beq_true h.1.2,AIm h.2]| [],_::_,h=>by cases h
 |_::_,[],h=>by cases h
theorem Sy{γ:Type}{b:Bool}{x:Option γ}{r:γ}(h:ifB b x=some r):b=true/\x=some r:=by
 grind
theorem ADY{x y:U}{X:Option ρ}{r:ρ}(h:agU x y X=some r):x=y/\X=some r:=by
 cases x<;>cases y<;>simp only[agU]at h<;>first|(cases h;done)|exact⟨rfl,h⟩|skip
 .grind[So]
 .grind[So]
 .obtain⟨rfl,j⟩:=So h;exact⟨rfl,j⟩
 .obtain⟨rfl,j⟩:=So h;exact⟨rfl,j⟩
 .grind[So]
 grind[So]
theorem AGK:∀{x y:List U} {X:Option ρ} {r:ρ},AWa x y X=some r->x=y/\X=some r
 | [],[],X,r,h=>⟨rfl,h⟩|a::x,b::y,X,r,h=>by
  obtain⟨rfl,j⟩:=ADY h;obtain⟨rfl,q⟩:=AGK j;exact⟨rfl,q⟩
 | [],_::_,_,_,h=>by cases h
 |_::_,[],_,_,h=>by cases h
theorem AMp{c j:C}{xs:List c.D}{ys:List j.D}{X:Option ρ}{r:ρ}(h:(if h:j=c then eqv xs (h▸ys) X else none)=some r):(⟨c,xs⟩:(c:C)×List c.D)=⟨j,ys⟩/\X=some r:=by
 grind[So]
theorem AUF:∀{x y:AT} {X:Option ρ} {r:ρ},AXw x y X=some r->x=y/\X=some r
 |.t x,.t y,X,r,h=>by obtain⟨rfl,q⟩:=ADY h;exact⟨rfl,q⟩
 |.und,.und,X,r,h=>⟨rfl,h⟩|.ow x,.ow y,X,r,h=>by obtain⟨rfl,q⟩:=ADY h;exact⟨rfl,q⟩
 |.owh c xs Q,.owh H ys J,X,r,h=>by
  obtain⟨q,G⟩:=Sy h;obtain⟨E,B⟩:=AMp G;cases E;rw[AIm q];exact⟨rfl,B⟩
 |.al L s,.al r' s',X,r,h=>by
  obtain⟨q,h⟩:=Sy h
  grind[Zu,ABf]
 |.ep L i j,.ep r' Y Z,X,r,h=>by
  obtain⟨q,h⟩:=Sy h
  grind[So,Zu,beq_true]
 |.vw s c xs,.vw s' H ys,X,r,h=>by
  obtain⟨q,G⟩:=Sy h;obtain⟨E,B⟩:=AMp G;cases E;rw[ABe q];exact⟨rfl,B⟩
 |.vp s cs,.vp s' I,X,r,h=>by
  obtain⟨q,h⟩:=Sy h;obtain⟨rfl,B⟩:=AGK h;rw[ABe q];exact⟨rfl,B⟩
 |.bp a o,.bp O o',X,r,h=>by
  obtain⟨q,h⟩:=Sy h
  grind[beq_true]
 |.fn _ _,.fn _ _,_,_,h=>by cases h
 |.t _,.und,_,_,h=>by cases h
 |.t _,.ow _,_,_,h=>by cases h
 |.t _,.owh _ _ _,_,_,h=>by cases h
 |.t _,.al _ _,_,_,h=>by cases h
 |.t _,.ep _ _ _,_,_,h=>by cases h
 |.t _,.vw _ _ _,_,_,h=>by cases h
 |.t _,.vp _ _,_,_,h=>by cases h
 |.t _,.bp _ _,_,_,h=>by cases h
 |.t _,.fn _ _,_,_,h=>by cases h
 |.und,.t _,_,_,h=>by cases h
 |.und,.ow _,_,_,h=>by cases h
 |.und,.owh _ _ _,_,_,h=>by cases h
 |.und,.al _ _,_,_,h=>by cases h
 |.und,.ep _ _ _,_,_,h=>by cases h
 |.und,.vw _ _ _,_,_,h=>by cases h
 |.und,.vp _ _,_,_,h=>by cases h
 |.und,.bp _ _,_,_,h=>by cases h
 |.und,.fn _ _,_,_,h=>by cases h
 |.ow _,.t _,_,_,h=>by cases h
 |.ow _,.und,_,_,h=>by cases h
 |.ow _,.owh _ _ _,_,_,h=>by cases h
 |.ow _,.al _ _,_,_,h=>by cases h
 |.ow _,.ep _ _ _,_,_,h=>by cases h
 |.ow _,.vw _ _ _,_,_,h=>by cases h
 |.ow _,.vp _ _,_,_,h=>by cases h
 |.ow _,.bp _ _,_,_,h=>by cases h
 |.ow _,.fn _ _,_,_,h=>by cases h
 |.owh _ _ _,.t _,_,_,h=>by cases h
 |.owh _ _ _,.und,_,_,h=>by cases h
 |.owh _ _ _,.ow _,_,_,h=>by cases h
 |.owh _ _ _,.al _ _,_,_,h=>by cases h
 |.owh _ _ _,.ep _ _ _,_,_,h=>by cases h
 |.owh _ _ _,.vw _ _ _,_,_,h=>by cases h
 |.owh _ _ _,.vp _ _,_,_,h=>by cases h
 |.owh _ _ _,.bp _ _,_,_,h=>by cases h
 |.owh _ _ _,.fn _ _,_,_,h=>by cases h
 |.al _ _,.t _,_,_,h=>by cases h
 |.al _ _,.und,_,_,h=>by cases h
 |.al _ _,.ow _,_,_,h=>by cases h
 |.al _ _,.owh _ _ _,_,_,h=>by cases h
 |.al _ _,.ep _ _ _,_,_,h=>by cases h
 |.al _ _,.vw _ _ _,_,_,h=>by cases h
 |.al _ _,.vp _ _,_,_,h=>by cases h
 |.al _ _,.bp _ _,_,_,h=>by cases h
 |.al _ _,.fn _ _,_,_,h=>by cases h
 |.ep _ _ _,.t _,_,_,h=>by cases h
 |.ep _ _ _,.und,_,_,h=>by cases h
 |.ep _ _ _,.ow _,_,_,h=>by cases h
 |.ep _ _ _,.owh _ _ _,_,_,h=>by cases h
 |.ep _ _ _,.al _ _,_,_,h=>by cases h
 |.ep _ _ _,.vw _ _ _,_,_,h=>by cases h
 |.ep _ _ _,.vp _ _,_,_,h=>by cases h
 |.ep _ _ _,.bp _ _,_,_,h=>by cases h
 |.ep _ _ _,.fn _ _,_,_,h=>by cases h
 |.vw _ _ _,.t _,_,_,h=>by cases h
 |.vw _ _ _,.und,_,_,h=>by cases h
 |.vw _ _ _,.ow _,_,_,h=>by cases h
 |.vw _ _ _,.owh _ _ _,_,_,h=>by cases h
 |.vw _ _ _,.al _ _,_,_,h=>by cases h
 |.vw _ _ _,.ep _ _ _,_,_,h=>by cases h
 |.vw _ _ _,.vp _ _,_,_,h=>by cases h
 |.vw _ _ _,.bp _ _,_,_,h=>by cases h
 |.vw _ _ _,.fn _ _,_,_,h=>by cases h
 |.vp _ _,.t _,_,_,h=>by cases h
 |.vp _ _,.und,_,_,h=>by cases h
 |.vp _ _,.ow _,_,_,h=>by cases h
 |.vp _ _,.owh _ _ _,_,_,h=>by cases h
 |.vp _ _,.al _ _,_,_,h=>by cases h
 |.vp _ _,.ep _ _ _,_,_,h=>by cases h
 |.vp _ _,.vw _ _ _,_,_,h=>by cases h
 |.vp _ _,.bp _ _,_,_,h=>by cases h
 |.vp _ _,.fn _ _,_,_,h=>by cases h
 |.bp _ _,.t _,_,_,h=>by cases h
 |.bp _ _,.und,_,_,h=>by cases h
 |.bp _ _,.ow _,_,_,h=>by cases h
 |.bp _ _,.owh _ _ _,_,_,h=>by cases h
 |.bp _ _,.al _ _,_,_,h=>by cases h
 |.bp _ _,.ep _ _ _,_,_,h=>by cases h
 |.bp _ _,.vw _ _ _,_,_,h=>by cases h
 |.bp _ _,.vp _ _,_,_,h=>by cases h
 |.bp _ _,.fn _ _,_,_,h=>by cases h
 |.fn _ _,.t _,_,_,h=>by cases h
 |.fn _ _,.und,_,_,h=>by cases h
 |.fn _ _,.ow _,_,_,h=>by cases h
 |.fn _ _,.owh _ _ _,_,_,h=>by cases h
 |.fn _ _,.al _ _,_,_,h=>by cases h
 |.fn _ _,.ep _ _ _,_,_,h=>by cases h
 |.fn _ _,.vw _ _ _,_,_,h=>by cases h
 |.fn _ _,.vp _ _,_,_,h=>by cases h
 |.fn _ _,.bp _ _,_,_,h=>by cases h
theorem rm:∀{x y:List AT} {X:Option ρ} {r:ρ},AUG x y X=some r->x=y/\X=some r
 | [],[],X,r,h=>⟨rfl,h⟩|a::x,b::y,X,r,h=>by
  obtain⟨rfl,j⟩:=AUF h;obtain⟨rfl,q⟩:=rm j;exact⟨rfl,q⟩
 | [],_::_,_,_,h=>by cases h
 |_::_,[],_,_,h=>by cases h
theorem bm{a b:Nat}(h:Nat.blt a b=true):a<b:=by simp[Nat.blt]at h;omega
theorem ADX{v:Nat}{P:Nat->Ent->Prop}(hP:∀k e q,P k e->P k q->e=q):∀{x y:List (Nat×Ent)} {X:Option ρ} {r:ρ},(∀k e,(k,e)∈x->e.ver<v->P k e)->(∀k e,(k,e)∈y->e.ver<v->P k e)->agE v x y X=some r->fgE R x=fgE R y/\X=some r
 | [],[],X,r,_,_,h=>⟨rfl,h⟩|(k,e)::x,(Q,q)::y,X,r,H,I,h=>by
  simp only[agE]at h;split at h
  .rename_i O;have:=beq_true O;subst this;split at h
   .rename_i G;simp only[AF]at G;have:=hP k e q (H k e (Be ..) (bm G.1)) (I k q (Be ..) (bm G.2));subst this;obtain⟨B,E⟩:=ADX hP (fun k e j=>H k e (Ax _ j)) (fun k e j=>I k e (Ax _ j)) h;exact⟨by unfold fgE at B ⊢;rw[AJ,AJ,B],E⟩
   .obtain⟨J,h⟩:=Sy h;obtain⟨L,h⟩:=rm h;obtain⟨B,E⟩:=ADX hP (fun k e j=>H k e (Ax _ j)) (fun k e j=>I k e (Ax _ j)) h;exact⟨by unfold fgE at B ⊢;rw[AJ,AJ,B];simp only[Ent.fg,AUt J,L],E⟩
  .cases h
 | [],_::_,_,_,_,_,h=>by cases h
 |_::_,[],_,_,_,_,h=>by cases h
theorem ADW{v:Nat}{P:Nat->Bx->Prop}(hP:∀k e q,P k e->P k q->e=q):∀{x y:List (Nat×Bx)} {X:Option ρ} {r:ρ},(∀k e,(k,e)∈x->e.ver<v->P k e)->(∀k e,(k,e)∈y->e.ver<v->P k e)->agB v x y X=some r->fgB R x=fgB R y/\X=some r
 | [],[],X,r,_,_,h=>⟨rfl,h⟩|(k,e)::x,(O,q)::y,X,r,H,I,h=>by
  simp only[agB]at h;split at h
  .rename_i L;have:=beq_true L;subst this;split at h
   .rename_i G;simp only[AF]at G;have:=hP k e q (H k e (Be ..) (bm G.1)) (I k q (Be ..) (bm G.2));subst this;obtain⟨B,E⟩:=ADW hP (fun k e j=>H k e (Ax _ j)) (fun k e j=>I k e (Ax _ j)) h;exact⟨by unfold fgB at B ⊢;rw[AJ,AJ,B],E⟩
   .obtain⟨J,h⟩:=rm h;obtain⟨B,E⟩:=ADW hP (fun k e j=>H k e (Ax _ j)) (fun k e j=>I k e (Ax _ j)) h;exact⟨by unfold fgB at B ⊢;rw[AJ,AJ,B,J],E⟩
  .cases h
 | [],_::_,_,_,_,_,h=>by cases h
 |_::_,[],_,_,_,_,h=>by cases h
theorem AB4{α:Type}{k:Nat}{e:α}:∀{l:List (Nat×α)},(k,e)∈l->bB k l=true
 |(j,x)::l,h=>by
  simp only[bB];cases q:Nat.beq j k with
  |true=>rfl|false=>
   rcases Ag.1 h with h|h
   .cases h;rw[Mq]at q;cases q
   .exact AB4 h
theorem QD{α:Type}{k:Nat}{e:α}:∀{l:List (Nat×α)},lM l=true->(k,e)∈l->get l k=some e
 |(j,x)::l,q,h=>by
  simp only[lM,AF,BG]at q;simp only[get];rcases Ag.1 h with h|h
  .cases h;rw[Mq]
  .cases y:Nat.beq j k with
   |true=>rw[beq_true y,AB4 h]at q;cases q.1
   |false=>exact QD q.2 h
theorem AWZ{S A B:St}{X:Option ρ}{r:ρ}(hA:BV S A)(hB:BV S B)(h:agS S.nv A B X=some r):A.fg R=B.fg R/\X=some r:=by
 obtain⟨E,h⟩:=Sy h;simp only[AF]at E;obtain⟨⟨⟨J,L⟩,O⟩,Q⟩:=E;obtain⟨H,h⟩:=ADX (R:=R) (P:=fun k e=>get S.tm k=some e) (fun k e G h y=>by rw[h]at y;exact Option.some.inj y) (fun k e j q=>hA.tm k e (QD J j) q) (fun k e j q=>hB.tm k e (QD L j) q) h;obtain⟨I,h⟩:=ADW (R:=R) (P:=fun k e=>get S.bx k=some e) (fun k e G h y=>by rw[h]at y;exact Option.some.inj y) (fun k e j q=>hA.bx k e (QD O j) q) (fun k e j q=>hB.bx k e (QD Q j) q) h;exact⟨by simp only[St.fg,H,I,hA.pin,hB.pin],h⟩
theorem Y0:∀{x:Bu R} {S:St} {K:St->Option ρ} {r:ρ},evr x S K=some r ->
 ∃S',BV S S'/\K S'=some r/\∀N:Lv.St->Prop,N (S'.fg R)->runK Ji x.er (S.fg R) N
 |.nil,S,K,r,h=>⟨S,BV.refl _,h,fun N hN=>hN⟩|.dr ds x,S,K,r,h=>by
  obtain⟨S',q,j,y⟩:=Y0 (x:=x) h;refine⟨S',(BV.IS _ _).trans q,j,fun N hN=>?_⟩;have:=y N hN;rw[ABc]at this;exact this
 |.nl ns x,S,K,r,h=>by
  obtain⟨S',q,j,y⟩:=Y0 (x:=x) h;refine⟨S',(BV.RA _ _).trans q,j,fun N hN=>?_⟩;have:=y N hN;rw[va]at this;exact this
 |.both n a b,S,K,r,h=>by
  have h:evr a S (fun A=>evr b S fun B=>agS S.nv A B (K A))=some r:=by
   cases n with
   |zero=>exact h|succ n=>simpa only[evr,AGM] using h
  obtain⟨A,I,J,a3⟩:=Y0 (x:=a) (K:=fun A=>evr b S fun B=>agS S.nv A B (K A)) h;obtain⟨B,L,O,Q⟩:=Y0 (x:=b) (K:=fun B=>agS S.nv A B (K A)) J;obtain⟨e,j⟩:=AWZ (R:=R) I L O;exact⟨A,I,j,fun N hN=>⟨a3 N hN,Q N (e▸hN)⟩⟩
 |.op i g sf o x,S,K,r,h=>by
  have safe:∀{S:St},(if Ju o S sf=true then ev o S fun S'=>S'.Fu fun S'=>evr x S' K else none)=some r ->
   ∃S',BV S S'/\evr x S' K=some r/\∀N:Lv.St->Prop,N (S'.fg R)->(Lv.Ju o.er (S.fg R) sf=true/\opK Ji o.er (S.fg R) N):=by
   intro S h;split at h
   .rename_i hs;obtain⟨S',q,j,y⟩:=AIr h;rw[E5]at j;exact⟨S',q,j,fun N hN=>⟨ACp hs,y N hN⟩⟩
   .cases h
  have key:∃S',BV S S'/\evr x S' K=some r/\∀N:Lv.St->Prop,N (S'.fg R)->∃b,Lv.wanted (S.fg R) g=some b/\((b=true/\Lv.Ju o.er (S.fg R) sf=true/\opK Ji o.er (S.fg R) N)\/(b=false/\∃S',Lv.MS o.er (S.fg R)=some S'/\N S')):=by
   simp only[evr,AW3]at h;split at h
   .obtain⟨S',q,j,y⟩:=safe h;exact⟨S',q,j,fun N hN=>⟨true,rfl,.inl ⟨rfl,y N hN⟩⟩⟩
   .rename_i s w;split at h
    .rename_i b v E;rcases AGR h with ⟨rfl,G⟩|⟨rfl,G⟩
     .refine Td (K:=fun S'=>evr x S' K) (P:=fun S N=>Lv.Ju o.er S sf=true/\opK Ji o.er S N) E w (by cases w<;>rfl) (f:=if Ju o (S.lit s true) sf=true then ev o (S.lit s true) fun S'=>S'.Fu fun S'=>evr x S' K else none) ?_ fun H=>safe H
      simpa only[E5] using G
     .refine Td (K:=fun S'=>evr x S' K) (P:=fun S N=>Lv.Ju o.er S sf=true/\opK Ji o.er S N) E (!w) (by cases w<;>rfl) (f:=if Ju o (S.lit s false) sf=true then ev o (S.lit s false) fun S'=>S'.Fu fun S'=>evr x S' K else none) ?_ fun H=>safe H
      simpa only[E5] using G
    .rename_i v E;simp only[E5]at h;obtain⟨S',q,j,y⟩:=mQ (R:=R) h;exact⟨S',j,y,fun N hN=>⟨false,ADN E,.inr ⟨rfl,_,q,hN⟩⟩⟩
    .cases h
  obtain⟨S1,q,j,y⟩:=key;obtain⟨S2,X,Y,Z⟩:=Y0 (x:=x) j;exact⟨S2,q.trans X,Y,fun N hN=>y _ (Z N hN)⟩
end
end Y
end Lv
namespace Lv
open Go (IntKind BinOp UnOp)
namespace Y
section
variable{R:List GF}{ρ:Type}
theorem ARc{s:Option Src}{l:AT}{x:U}(h:ARb s l=some x):ARa s x=l:=by
 unfold ARb at h;split at h
 .cases h
 .cases h
 .cases h
 .rename_i j q y;cases h;cases s<;>cases x<;>first|rfl|(exact(j _ _ rfl).elim)|(exact(q rfl).elim)|(exact(y _ rfl).elim)
 .split at h
  .cases h;rfl
  .cases h
 .split at h
  .cases h;rfl
  .cases h
 .split at h
  .cases h
  .split at h
   .rename_i B;subst B;cases h;rfl
   .cases h
 .cases h
theorem qO{s:Option Src}:∀{ls:List AT} {us:List U},vU s ls=some us->us.map (ARa s)=ls
 | [],us,h=>by cases h;rfl
 |l::ls,us,h=>by
  simp only[vU]at h;split at h
  .rename_i x xs j q;cases h;rw[AJ,ARc j,qO q]
  .cases h
theorem AWV{a:AL}{ls:List AT}{x:a.D}(h:a.un ls=some x):a.leaf x=ls:=by
 cases a with
 |val c s=>
  simp only[AL.un]at h;split at h
  .rename_i us q;simp only[AL.leaf];rw[Zl h,qO q]
  .cases h
 |num k=>
  simp only[AL.un]at h;split at h
  .split at h
   .rename_i j;subst j;cases h;rfl
   .cases h
  .cases h
 |al r=>
  simp only[AL.un]at h;split at h
  .split at h
   .rename_i j;subst j;rfl
   .cases h
  .cases h
theorem xi:∀{as:List AL} {ls:List AT} {x:TA as},AVw as ls=some x->TD as x=ls
 | [],ls,x,h=>by
  cases ls with
  |nil=>rfl|cons l ls=>cases h
 | [a],ls,x,h=>AWV h|a::j::as,ls,x,h=>by
  simp only[AVw]at h;split at h
  .rename_i y z q B;cases h;show a.leaf y++TD (j::as) z=ls;rw[AWV q,xi B,IK]
  .cases h
theorem LX{b:Bool}{k:Nat}:∀{c:Cut} {ls:List AT},OL b k c=false->look b k (seg c ls)=none
 | [],ls,h=>rfl|(j,d,sh,as)::c,ls,h=>by
  simp only[OL]at h;simp only[seg,look];split at h
  .cases h
  .exact LX h
theorem Y5{S:St}{k:Nat}:∀{c:Cut} {ls:List AT},Qt S c=some ls->OL false k c=true->∃e,get S.tm k=some e/\look false k (seg c ls)=some (e.sh,e.cs)
 | [],ls,h,j=>by cases j
 |(false,d,sh,as)::c,ls,h,j=>by
  simp only[Qt]at h;split at h
  .rename_i e ls' B y;split at h
   .rename_i q;cases h;simp only[OL]at j;simp only[seg,look];split at j
    .rename_i E;have H:d=k:=by simpa[Qf] using E
     subst H;refine⟨e,B,?_⟩;rw[Cx q.2,YB q.1]
    .rename_i E;rw[Ck q.2];exact Y5 y j
   .cases h
  .cases h
 |(true,d,sh,as)::c,ls,h,j=>by
  simp only[Qt]at h;split at h
  .rename_i e ls' B y;split at h
   .rename_i q;cases h;have G:((true:Bool)==false)=false:=rfl;simp only[OL,G,Bm]at j;simp only[seg,look,G,Bm];rw[Ck q];exact Y5 y j
   .cases h
  .cases h
theorem Y4{S:St}{k:Nat}:∀{c:Cut} {ls:List AT},Qt S c=some ls->OL true k c=true->∃e sh,get S.bx k=some e/\look true k (seg c ls)=some (sh,e.cs)
 | [],ls,h,j=>by cases j
 |(true,d,sh,as)::c,ls,h,j=>by
  simp only[Qt]at h;split at h
  .rename_i e ls' B y;split at h
   .rename_i q;cases h;simp only[OL]at j;simp only[seg,look];split at j
    .rename_i E;have H:d=k:=by simpa[Qf] using E
     subst H;refine⟨e,sh,B,?_⟩;rw[Cx q]
    .rename_i E;rw[Ck q];exact Y4 y j
   .cases h
  .cases h
 |(false,d,sh,as)::c,ls,h,j=>by
  simp only[Qt]at h;split at h
  .rename_i e ls' B y;split at h
   .rename_i q;cases h;have G:((false:Bool)==true)=false:=rfl;simp only[OL,G,Bm]at j;simp only[seg,look,G,Bm];rw[Ck q.2];exact Y4 y j
   .cases h
  .cases h
theorem AJY{q:List (Bool×Nat×Sh×List AT)}{a:List (Nat×Ent)}{v:Nat}:∀{l:List (Nat×Ent)},(∀k e,(k,e)∈l->look false k q=some (e.sh,e.cs)\/(look false k q=none/\get a k=some e))->fgE R (mC q a v l)=fgE R l
 | [],_=>rfl|(k,e)::l,h=>by
  have y:=AJY (v:=v) (l:=l) (fun k e E=>h k e (Ax _ E));simp only[fgE,mC,AJ]at y ⊢;rw[y];rcases h k e (by simp) with j|⟨j,B⟩
  .rw[j];rfl
  .rw[j,B]
theorem AJX{q:List (Bool×Nat×Sh×List AT)}{a:List (Nat×Bx)}{v:Nat}:∀{l:List (Nat×Bx)},(∀k e,(k,e)∈l->(∃sh,look true k q=some (sh,e.cs))\/(look true k q=none/\get a k=some e))->fgB R (mB q a v l)=fgB R l
 | [],_=>rfl|(k,e)::l,h=>by
  have y:=AJX (v:=v) (l:=l) (fun k e E=>h k e (Ax _ E));simp only[fgB,mB,AJ]at y ⊢;rw[y];rcases h k e (by simp) with ⟨sh,j⟩|⟨j,B⟩
  .rw[j]
  .rw[j,B]
theorem ZY{α:Type}{k:Nat}{e:α}:∀{l:List (Nat×α)},(k,e)∈l->bB k l=true
 |(j,x)::l,h=>by
  simp only[bB];cases q:Nat.beq j k with
  |true=>rfl|false=>
   rcases Ag.1 h with h|h
   .cases h;exact(beq_false q rfl).elim
   .exact ZY h
theorem rJ{c:Cut}{a:List (Nat×Ent)}:∀{l:List (Nat×Ent)} {k:Nat} {e:Ent},AJd c a l=true->(k,e)∈l->get l k=some e/\(OL false k c=true\/(OL false k c=false/\∃y,get a k=some y/\e.ver=y.ver))
 |(j,x)::l,k,e,h,q=>by
  simp only[AJd,AF,BG]at h;obtain⟨⟨E,G⟩,B⟩:=h;rcases Ag.1 q with q|q
  .grind[Prod.mk.injEq,get,Nat.beq,Qf,OL,beq_true]
  .obtain⟨H,I⟩:=rJ B q
   grind[get,Nat.beq,beq_true,ZY]
theorem rI{c:Cut}{a:List (Nat×Bx)}:∀{l:List (Nat×Bx)} {k:Nat} {e:Bx},AJc c a l=true->(k,e)∈l->get l k=some e/\(OL true k c=true\/(OL true k c=false/\∃y,get a k=some y/\e.ver=y.ver))
 |(j,x)::l,k,e,h,q=>by
  simp only[AJc,AF,BG]at h;obtain⟨⟨E,G⟩,B⟩:=h;rcases Ag.1 q with q|q
  .grind[Prod.mk.injEq,get,Nat.beq,Qf,OL,beq_true]
  .obtain⟨H,I⟩:=rI B q
   grind[get,Nat.beq,beq_true,ZY]
theorem AM2{a b:Nat}(h:Nat.blt a b=true):a<b:=Nat.le_of_ble_eq_true h
theorem AJp{v:Nat}:∀{l:List (Nat×Ent)} {k:Nat} {e:Ent},wfE v l=true->get l k=some e->e.ver<v
 |(j,x)::l,k,e,h,q=>by
  simp only[wfE,AF]at h;simp only[get]at q;split at q
  .cases q;exact AM2 h.1
  .exact AJp h.2 q
theorem AJo{v:Nat}:∀{l:List (Nat×Bx)} {k:Nat} {e:Bx},wfB v l=true->get l k=some e->e.ver<v
 |(j,x)::l,k,e,h,q=>by
  simp only[wfB,AF]at h;simp only[get]at q;split at q
  .cases q;exact AM2 h.1
  .exact AJo h.2 q
structure Eg(c:Cut)(S S':St):Prop where
 tm:∀k e,OL false k c=false->get S'.tm k=some e->e.ver<S.nv->get S.tm k=some e
 bx:∀k e,OL true k c=false->get S'.bx k=some e->e.ver<S.nv->get S.bx k=some e
 pin:S'.pin=S.pin
theorem Eg.of{c:Cut}{S S':St}(h:BV S S'):Eg c S S':=⟨fun k e _=>h.tm k e,fun k e _=>h.bx k e,h.pin⟩
theorem tM{c:Cut}{S S':St}{x:TA c.as}(h:c.fit S S'=some x)(H:Eg c S S') :
 (c.st S S' x).fg R=S'.fg R /\
 (∀k e,(k,e)∈S'.tm->look false k (seg c (TD c.as x))=some (e.sh,e.cs)\/(look false k (seg c (TD c.as x))=none/\get S.tm k=some e)) /\
 (∀k e,(k,e)∈S'.bx->(∃sh,look true k (seg c (TD c.as x))=some (sh,e.cs))\/(look true k (seg c (TD c.as x))=none/\get S.bx k=some e)):=by
 unfold Cut.fit at h;split at h
 .rename_i Q;obtain⟨w1,Y,s1,X⟩:=Q;split at h
  .rename_i ls J;rw[xi h];have hE:∀k e,(k,e)∈S'.tm->look false k (seg c ls)=some (e.sh,e.cs)\/(look false k (seg c ls)=none/\get S.tm k=some e):=by
    intro k e I;obtain⟨q,j⟩:=rJ s1 I;rcases j with j|⟨j,L,B,E⟩
    .obtain⟨O,y,G⟩:=Y5 J j;rw[q]at y;cases y;exact .inl G
    .exact .inr ⟨LX j,H.tm k e j q (by rw[E];exact AJp w1 B)⟩
   have hB:∀k e,(k,e)∈S'.bx->(∃sh,look true k (seg c ls)=some (sh,e.cs))\/(look true k (seg c ls)=none/\get S.bx k=some e):=by
    intro k e I;obtain⟨q,j⟩:=rI X I;rcases j with j|⟨j,L,B,E⟩
    .obtain⟨O,sh,y,G⟩:=Y4 J j;rw[q]at y;cases y;exact .inl ⟨sh,G⟩
    .exact .inr ⟨LX j,H.bx k e j q (by rw[E];exact AJo Y B)⟩
   refine⟨?_,hE,hB⟩;simp only[St.fg,Cut.st,xi h];rw[AJY hE,AJX hB,H.pin]
  .cases h
 .cases h
theorem rD{q:List (Bool×Nat×Sh×List AT)}{a:List (Nat×Ent)}{v:Nat}:∀{l l':List (Nat×Ent)},OE l l'=true->(∀k e,(k,e)∈l'->look false k q=some (e.sh,e.cs)\/(look false k q=none/\get a k=some e))->mC q a v l=mC q a v l'
 | [],[],_,_=>rfl| [],_::_,h,_=>by cases h
 |_::_,[],h,_=>by cases h
 |(k,e)::l,(I,G)::l',h,B=>by
  simp only[OE,AF]at h;obtain⟨j,y⟩:=h;have:=beq_true j;subst this;have H:=rD (v:=v) y (fun k e E=>B k e (Ax _ E))
  grind[mC]
theorem rC{q:List (Bool×Nat×Sh×List AT)}{a:List (Nat×Bx)}{v:Nat}:∀{l l':List (Nat×Bx)},OE l l'=true->(∀k e,(k,e)∈l'->(∃sh,look true k q=some (sh,e.cs))\/(look true k q=none/\get a k=some e))->mB q a v l=mB q a v l'
 | [],[],_,_=>rfl| [],_::_,h,_=>by cases h
 |_::_,[],h,_=>by cases h
 |(k,e)::l,(I,G)::l',h,B=>by
  simp only[OE,AF]at h;obtain⟨j,y⟩:=h;have:=beq_true j;subst this;have H:=rC (v:=v) y (fun k e E=>B k e (Ax _ E))
  grind[mB]
theorem j8{q:List (Bool×Nat×Sh×List AT)}{a:List (Nat×Ent)}{v k:Nat}(G:look false k q=none):∀{l:List (Nat×Ent)} {y:Ent},get (mC q a v l) k=some y->∃e,get l k=some e/\y=(match get a k with|some B=>B|none=>e)
 |(j,x)::l,y,h=>by
  simp only[mC,get]at h ⊢;cases E:Nat.beq j k with
  |true=>
   grind[beq_true,Option.some.inj]
  |false=>rw[E]at h;exact j8 G h
theorem j7{q:List (Bool×Nat×Sh×List AT)}{a:List (Nat×Bx)}{v k:Nat}(G:look true k q=none):∀{l:List (Nat×Bx)} {y:Bx},get (mB q a v l) k=some y->∃e,get l k=some e/\y=(match get a k with|some B=>B|none=>e)
 |(j,x)::l,y,h=>by
  simp only[mB,get]at h ⊢;cases E:Nat.beq j k with
  |true=>
   grind[beq_true,Option.some.inj]
  |false=>rw[E]at h;exact j7 G h
theorem Eg.round{c:Cut}{S S':St}{x:TA c.as}(h:BV (c.st S S x) S'):Eg c S S':=by
 refine⟨fun k e G E j=>?_,fun k e G E j=>?_,h.pin⟩
 .have q:=h.tm k e E (Jk j);obtain⟨H,y,B⟩:=j8 (LX G) q
  grind
 .have q:=h.bx k e E (Jk j);obtain⟨H,y,B⟩:=j7 (LX G) q;rw[y]at B;subst B;exact y
theorem ph{c:Cut}{S S':St}{y:TA c.as}(h:c.fit S S'=some y)(j:Eg c S S')(q:OE S.tm S'.tm=true)(B:OE S.bx S'.bx=true):(c.st S S y).fg R=S'.fg R:=by
 obtain⟨E,G,H⟩:=tM (R:=R) h j
 grind[St.fg,Cut.st,rD,rC]
theorem Zc{b:Bool}{k:Nat}:∀{c:Cut} {ls:List AT},OL b k c=true->∃p,look b k (seg c ls)=some p
 |(j,d,sh,as)::c,ls,h=>by
  simp only[OL]at h;simp only[seg,look];split at h
  .exact⟨_,rfl⟩
  .exact Zc h
theorem ACh{q:List (Bool×Nat×Sh×List AT)}{a:List (Nat×Ent)}{v k:Nat}{p:Sh×List AT}(E:look false k q=some p):∀{l:List (Nat×Ent)} {y:Ent},get (mC q a v l) k=some y->v<=y.ver
 |(j,z)::l,y,h=>by
  simp only[mC,get]at h;cases B:Nat.beq j k with
  |true=>
   grind[beq_true]
  |false=>rw[B]at h;exact ACh E h
theorem ACg{q:List (Bool×Nat×Sh×List AT)}{a:List (Nat×Bx)}{v k:Nat}{p:Sh×List AT}(E:look true k q=some p):∀{l:List (Nat×Bx)} {y:Bx},get (mB q a v l) k=some y->v<=y.ver
 |(j,z)::l,y,h=>by
  simp only[mB,get]at h;cases B:Nat.beq j k with
  |true=>
   grind[beq_true]
  |false=>rw[B]at h;exact ACg E h
theorem BV.st{c:Cut}{S S':St}{x:TA c.as}(I:BV S S'):BV S (c.st S S' x):=by
 refine⟨by simp[Cut.st],fun k e B E=>?_,fun k e B E=>?_,rfl⟩
 .cases j:OL false k c with
  |false=>
   obtain⟨J,G,q⟩:=j8 (LX j) B;cases y:get S.tm k with
   |some L=>rw[y]at q;subst q;rfl|none=>
    rw[y]at q;subst q;have:=I.tm k _ G E;rw[y]at this;cases this
  |true=>
   obtain⟨p,H⟩:=Zc (ls:=TD c.as x) j;exact absurd E (OS.2 (ACh H B))
 .cases j:OL true k c with
  |false=>
   obtain⟨J,G,q⟩:=j7 (LX j) B;cases y:get S.bx k with
   |some L=>rw[y]at q;subst q;rfl|none=>
    rw[y]at q;subst q;have:=I.bx k _ G E;rw[y]at this;cases this
  |true=>
   obtain⟨p,H⟩:=Zc (ls:=TD c.as x) j;exact absurd E (OS.2 (ACg H B))
theorem EK:∀{x:Gn R} {S:St} {K:Ex->St->Option ρ} {r:ρ} {Q:Ex->Lv.St->Prop},HT x S K=some r->(∀e S',BV S S'->K e S'=some r->Q e (S'.fg R))->wp Ji x.er (S.fg R) Q
 |.skip,S,K,r,Q,h,hQ=>hQ _ _ (BV.refl _) h|.region ops FV,S,K,r,Q,h,hQ=>by
  obtain⟨S',O,E,H⟩:=AN3 (show evs ops S _=some r from h);rw[E5]at E;refine H _ ⟨S'.clo 6 (S'.pin++FV),?_⟩;rw[<-Vx];exact hQ _ _ (O.trans (BV.clean _ _)) E
 |.U5 x FV,S,K,r,Q,h,hQ=>by
  obtain⟨S',O,E,H⟩:=Y0 (show evr x S _=some r from h);rw[E5]at E;refine H _ ⟨S'.clo 6 (S'.pin++FV),?_⟩;rw[<-Vx];exact hQ _ _ (O.trans (BV.clean _ _)) E
 |.seq a b,S,K,r,Q,h,hQ=>by
  refine EK (x:=a) (show HT a S _=some r from h) fun e S' q j=>?_
  cases e with
  |n=>exact EK (x:=b) j fun e S2 B E=>hQ _ _ (q.trans B) E|x i=>exact hQ _ _ q j|r=>exact hQ _ _ q j
 |.join c a b,S,K,r,Q,h,hQ=>by
  refine EK (x:=a) (show HT a S _=some r from h) fun e S' q j=>?_
  cases e with
  |n=>
   dsimp only at j ⊢;split at j
   .rename_i x hx;have j:(c.st S S' x).Fu (fun S=>HT b S K)=some r:=by rw[<-ART (fun x=>(c.st S S' x).Fu fun S=>HT b S K) x];exact j
    rw[E5]at j;obtain⟨H,_,_⟩:=tM (R:=R) hx (Eg.of q);rw[<-H];refine EK (x:=b) j fun e S2 B E=>hQ _ _ ?_ E
    exact(BV.st q).trans B
   .cases j
  |x i=>exact hQ _ _ q j|r=>exact hQ _ _ q j
 |.cond c kt ke t e,S,K,r,Q,h,hQ=>by
  simp only[HT]at h;split at h
  .rename_i b hb;have X:=Om (R:=R) hb;simp only[YO.er,U.fg]at X;rcases AGR h with ⟨rfl,j⟩|⟨rfl,j⟩
   .rw[E5]at j;refine⟨true,X,S.clo 6 (S.pin++kt),?_⟩;rw[AX rfl,<-Vx];exact EK (x:=t) j fun e S2 B E=>hQ _ _ ((BV.clean _ _).trans B) E
   .rw[E5]at j;refine⟨false,X,S.clo 6 (S.pin++ke),?_⟩;rw[AU (by simp),<-Vx];exact EK (x:=e) j fun e S2 B E=>hQ _ _ ((BV.clean _ _).trans B) E
  .cases h
 |.block id b,S,K,r,Q,h,hQ=>by
  refine EK (x:=b) (show HT b S _=some r from h) fun e S' q j=>?_
  cases e with
  |n=>exact hQ _ _ q j|x i=>
   dsimp only at j ⊢;split at j
   .rename_i hi;rw[AX hi];exact hQ _ _ q j
   .rename_i hi;rw[AU hi];exact hQ _ _ q j
  |r=>exact hQ _ _ q j
 |.loop c b,S,K,r,Q,h,hQ=>by
  simp only[HT]at h;split at h
  .rename_i x0 J;have key:∀(n:Nat) (x:TA c.as),BB (fun L x=>(c.st S S x).Fu fun S1=>HT b S1 fun e S'=>match e with
    |.n=>if OE S.tm S'.tm=true/\OE S.bx S'.bx=true then (match c.fit S S' with|some y=>L y|none=>none) else none
    |.x i=>K (.x i) S'|.r=>K .r S') n x=some r->AJF (wp Ji b.er) n ((c.st S S x).fg R) Q:=by
    intro n
    induction n with
    |zero=>intro x h;rw[AJG]at h;cases h
    |succ n Z=>
     intro x h;rw[Dy]at h;rw[E5]at h;refine EK (x:=b) h fun e S' q j=>?_
     have hS:BV S (c.st S S x):=BV.st (BV.refl S);cases e with
     |n=>
      dsimp only at j ⊢;split at j
      .rename_i G;split at j
       .rename_i y Y;rw[<-ph Y (Eg.round q) G.1 G.2];exact Z y j
       .cases j
      .cases j
     |x i=>exact hQ _ _ (hS.trans q) j|r=>exact hQ _ _ (hS.trans q) j
   refine⟨big,?_⟩;obtain⟨H,_,_⟩:=tM (R:=R) J (Eg.of (BV.refl S));rw[<-H];exact key big x0 h
  .cases h
 |.exit id,S,K,r,Q,h,hQ=>hQ _ _ (BV.refl _) h|.ret,S,K,r,Q,h,hQ=>hQ _ _ (BV.refl _) h|.scope b,S,K,r,Q,h,hQ=>EK (x:=b) (show HT b S K=some r from h) hQ|.or a b,S,K,r,Q,h,hQ=>(AXT (show orX (HT a S K) (HT b S K)=some r from h)).elim (fun h=>.inl (EK (x:=a) h hQ)) fun h=>.inr (EK (x:=b) h hQ)|.dead,S,K,r,Q,h,hQ=>by cases h
 |.AVR c b,S00,K,r,Q,h,hQ=>by
  refine⟨big+1,?_⟩;refine EK (x:=b) (show HT b S00 _=some r from h) fun e S I h=>?_
  cases e with
  |n=>
   dsimp only at h ⊢;split at h
   .rename_i x0 J;have key:∀(n:Nat) (x:TA c.as),BB (fun L x=>(c.st S S x).Fu fun S1=>HT b S1 fun e S'=>match e with
     |.n=>if OE S.tm S'.tm=true/\OE S.bx S'.bx=true then (match c.fit S S' with|some y=>L y|none=>none) else none
     |.x i=>K (.x i) S'|.r=>K .r S') n x=some r->AJF (wp Ji b.er) n ((c.st S S x).fg R) Q:=by
     intro n
     induction n with
     |zero=>intro x h;rw[AJG]at h;cases h
     |succ n Z=>
      intro x h;rw[Dy]at h;rw[E5]at h;refine EK (x:=b) h fun e S' q j=>?_
      have hS:BV S (c.st S S x):=BV.st (BV.refl S);cases e with
      |n=>
       dsimp only at j ⊢;split at j
       .rename_i G;split at j
        .rename_i y Y;rw[<-ph Y (Eg.round q) G.1 G.2];exact Z y j
        .cases j
       .cases j
      |x i=>exact hQ _ _ (I.trans (hS.trans q)) j|r=>exact hQ _ _ (I.trans (hS.trans q)) j
    obtain⟨H,_,_⟩:=tM (R:=R) J (Eg.of (BV.refl S));rw[<-H];exact key big x0 h
   .cases h
  |x i=>exact hQ _ _ I h|r=>exact hQ _ _ I h
end
end Y
end Lv
namespace Lv
open Go (IntKind BinOp UnOp)
namespace Y
section
variable{R:List GF}{ρ:Type}
def AYI:C->Bool|.st _=>true|.un _=>true|_=>false
def yU:List (Bool×C)->Bool| []=>true|(true,_)::r=>yU r|(false,c)::r=>(!AYI c&&decide (c≠.m))&&yU r
def ACQ:List PK->Bool| []=>true|.f _ l::r=>yU l&&ACQ r|_::r=>ACQ r
theorem sJ(i:Nat):∀(l:List (Bool×C)) (x:re l),yU l=true->Lv.O2 i (SC l x)=some ((O2 i l x).map Cap.fg)
 | [],x,h=>rfl|(true,c)::l,x,h=>by
  have j:=sJ i l x.2 h;simp only[SC,Lv.O2,O2,AJ,Cap.fg];rw[j,FT];rfl
 |(false,c)::l,x,h=>by
  simp only[yU,AF,BG,decide_eq_true_eq]at h;have j:=sJ i l x.2 h.2;cases c with
  |st n=>cases h.1.1
  |un n=>cases h.1.1
  |m=>exact(h.1.2 rfl).elim|_=>
   simp only[SC,enc,Lv.O2,O2,cells,AJ,j];rfl
theorem ATZ(c:C)(x:c.D):GJ (shC c) (enc c x).length=true:=by
 rw[OZ];cases c<;>rfl
theorem N5:∀(ks:List PK) (i:Nat) (fs:List Nat) (a:A ks) (S:St),ACQ ks=true->fs.map (fun n=>(R[n]?).map GF.x)=(fX ks).map some ->
 Lv.initK i (ks.map PK.md) (aVs ks a) (S.fg R)=some ((initK i fs ks a S).fg R)
 | [],i,fs,a,S,_,_=>rfl|k::ks,i,fs,a,S,B,y=>by
  obtain⟨j,E⟩:=a;cases k with
  |v c=>
   have hE:enc c j=(cells c j).map U.fg:=FT c j;have q:=N5 ks (i+1) fs E (S.KD i (shC c) ((cells c j).map (EN i))) B y;rw[Lp,QA,<-hE]at q;exact q
  |p c=>
   have hE:enc c j=(cells c j).map U.fg:=FT c j;have q:=N5 ks (i+1) fs E (S.KD i .one [.vp (.old i) (cells c j)]) B y;rw[Lp]at q;simp only[AJ,BY,AT.fg]at q;rw[<-hE]at q;exact q
  |b c=>
   have hE:enc c j=(cells c j).map U.fg:=FT c j;have q:=N5 ks (i+1) fs E (let S1:=(S.KD i .one [.bp i 0]).ON i ((cells c j).map (EN i));⟨S1.tm,S1.bx,i::S1.pin,S1.nv⟩) B y;have e:(let S1:=(S.KD i .one [.bp i 0]).ON i ((cells c j).map (EN i));(⟨S1.tm,S1.bx,i::S1.pin,S1.nv⟩:St)).fg R={ S.fg R with tm:=Lv.put (S.fg R).tm i ⟨.one,[.bp i 0]⟩,bx:=Lv.put (S.fg R).bx i ((enc c j).map (Lv.EN i)),pin:=i::(S.fg R).pin}:=by
    have G:=T9 (R:=R) (S.KD i .one [.bp i 0]) i ((cells c j).map (EN i));rw[Lp,QA,<-hE]at G;have H:=congrArg Lv.St.tm G;have I:=congrArg Lv.St.bx G;simp only[St.fg]at H I ⊢;rw[H,I];rfl
   rw[e]at q;exact q
  |o c=>
   have hE:enc c j=(cells c j).map U.fg:=FT c j;have q:=N5 ks (i+1) fs E (S.KD i (shC c) ((cells c j).map Jt)) B y;rw[Lp,Zf,<-hE]at q;exact q
  |m c=>
   have hE:enc c j=(cells c j).map U.fg:=FT c j;have q:=N5 ks (i+1) fs E (let S1:=S.KD i (shC c) ((cells c j).map Jt);⟨S1.tm,S1.bx,i::S1.pin,S1.nv⟩) B y;have e:(let S1:=S.KD i (shC c) ((cells c j).map Jt);(⟨S1.tm,S1.bx,i::S1.pin,S1.nv⟩:St)).fg R={ S.fg R with tm:=Lv.put (S.fg R).tm i ⟨shC c,(enc c j).map Lv.Jt⟩,pin:=i::(S.fg R).pin}:=by
    have G:=Lp (R:=R) S i (shC c) ((cells c j).map Jt);rw[Zf,<-hE]at G;have H:=congrArg Lv.St.tm G;simp only[St.fg]at H ⊢;rw[H];rfl
   rw[e]at q;have O:GJ (shC c) (enc c j).length=true:=ATZ c j;show (if GJ (shC c) (enc c j).length=true then _ else none)=_;rw[AX O];exact q
  |f x l=>
   simp only[ACQ,AF]at B;cases fs with
   |nil=>simp[fX]at y|cons n fs=>
    simp only[fX,AJ,Cc]at y;have Q:xr R n=x:=by
     unfold xr;cases J:R[n]? with
     |none=>rw[J]at y;simp at y|some g=>rw[J]at y;simpa using y.1
    have q:=N5 ks (i+1) fs E (S.KD i .one [.fn n (O2 i l j)]) B.2 y.2;rw[Lp]at q;have L:Lv.O2 i (SC l j)=some ((O2 i l j).map Cap.fg):=sJ i l j B.1;show (match Lv.O2 i (SC l j) with|some ls=>Lv.initK (i+1) _ _ _|none=>none)=_;rw[L];simp only[AJ,BY,AT.fg,Q]at q;exact q
theorem NI:∀{rs:List HU} {S:St} {K:List (Option Nat)->List AT->Option ρ} {r:ρ},MQ rs S K=some r->∃ns ls,Lv.MQ rs (S.fg R)=some (ns,ls.map (AT.fg R))/\K ns ls=some r
 | [],S,K,r,h=>⟨[],[],rfl,h⟩|.tmp t::rs,S,K,r,h=>by
  simp only[MQ]at h;split at h
  .rename_i e y;split at h
   .rename_i E;obtain⟨ns,ls,j,q⟩:=NI h;refine⟨_,_,?_,q⟩;have:=LL (R:=R) y;simp only[YO.er]at this;simp only[Lv.MQ,this,j,En.fg,An,E,if_true,Dn];rfl
   .cases h
  .cases h
 |.cell t n::rs,S,K,r,h=>by
  simp only[MQ]at h;split at h
  .rename_i id o y;obtain⟨ls',j,h⟩:=Q6 (R:=R) h;obtain⟨ns,ls,q,B⟩:=NI h;refine⟨_,_,?_,B⟩;have:=E8 (R:=R) y;simp only[YO.er,AT.fg]at this j;simp only[Lv.MQ,this,j,q,Dn]
  .cases h
 |.bx _::rs,S,K,r,h=>by cases h
 |.vw _ _::rs,S,K,r,h=>by cases h
 |.un _ _::rs,S,K,r,h=>by cases h
theorem qU:∀{ls:List AT},N7 ls=true->Lv.N7 (ls.map (AT.fg R))=true
 | [],_=>rfl|l::ls,h=>by
  simp only[N7,AF]at h;simp only[AJ,Lv.N7,AF];refine⟨?_,qU h.2⟩;have j:=h.1
  grind[AT.fg,ko]
theorem AVe{rk:RK}{rs:List HU}{S:St}{K:St->List U->Option ρ}{r:ρ}(h:ba rk rs S K=some r):∃S' us,Lv.ba rs (S.fg R)=some (S'.fg R,rk.sh,us.map U.fg)/\K S' us=some r:=by
 unfold ba at h;split at h
 .rename_i k c t;split at h
  .rename_i id y;have j:=E8 (R:=R) y;simp only[YO.er,AT.fg]at j;split at h
   .rename_i ls Y;split at h
    .cases h
    .rename_i L;split at h
     .rename_i E;split at h
      .rename_i us G;subst E;refine⟨S,us,?_,h⟩;have O:id∉(S.fg R).pin:=fun X=>L (mem_iff.2 X)
       simp only[Lv.ba,j,Pz,Y,Ar,N6,PZ G];rw[AU O];rfl
      .cases h
     .cases h
   .cases h
  .cases h
 .rename_i k c t k';split at h
  .rename_i E;subst E;split at h
   .rename_i k'' c' xs y;have j:=E8 (R:=R) y;simp only[YO.er,AT.fg]at j;split at h
    .rename_i E;subst E;exact⟨S,_,by simp only[Lv.ba,j,if_true];rfl,h⟩
    .cases h
   .rename_i q sub y;have j:=E8 (R:=R) y;simp only[YO.er,AT.fg]at j;split at h
    .rename_i x Z;refine⟨_,_,?_,h⟩;simp only[Lv.ba,j,Jm,Z,Ar,AT.fg,VS,AJ,BY,YL];rfl
    .cases h
   .cases h
  .cases h
 .rename_i n c cs t n' r' rs;split at h
  .rename_i J;subst J;split at h
   .rename_i id o y;have B:=E8 (R:=R) y;obtain⟨ls',Q,h⟩:=Q6 (R:=R) h;simp only[YO.er,AT.fg]at B Q;split at h
    .rename_i L;obtain⟨ns,ls,j,h⟩:=NI (R:=R) h;split at h
     .rename_i I;split at h
      .rename_i S' us G;obtain⟨H,_⟩:=Lo (R:=R) G;refine⟨S',_,?_,h⟩;simp only[Lv.ba,B,Q];rw[AX (qU L),j];dsimp only;rw[H,I];simp only[Dn,Gt];rfl
      .cases h
     .cases h
    .cases h
   .cases h
  .cases h
 .rename_i cs;obtain⟨ns,ls,j,h⟩:=NI (R:=R) h;split at h
  .rename_i I;split at h
   .rename_i S' us G;obtain⟨H,_⟩:=Lo (R:=R) G;refine⟨S',us,?_,h⟩;have:Lv.ba rs (S.fg R)=match Lv.MQ rs (S.fg R) with
     |some (ns,ls)=>(match Lv.Di (S.fg R) ls with|some (S',cs)=>some (S',ACv ns,cs)|none=>none)
     |none=>none:=by
     rcases rs with _|⟨a,_|⟨b,rs⟩⟩
     .rfl
     .cases a<;>first|rfl|(simp[Lv.MQ]at j)
     .cases a<;>first|rfl|(simp[Lv.MQ]at j)
    rw[this,j];dsimp only;rw[H,I];rfl
   .cases h
  .cases h
 .cases h
theorem AXV{l:AT}{u:U}(h:owT l=some u):Lv.owT (AT.fg R l)=some u.fg:=by
 cases l with
 |ow x=>cases h;rfl
 |t x=>
  grind[owT,AT.fg,Lv.owT,ko]
 |_=>cases h
theorem AJN:∀{ls:List AT} {us:List U},bZ ls=some us->Lv.bZ (ls.map (AT.fg R))=some (us.map U.fg)/\us.length=ls.length
 | [],us,h=>by cases h;exact⟨rfl,rfl⟩
 |l::ls,us,h=>by
  simp only[bZ]at h;split at h
  .rename_i x xs j q;cases h;obtain⟨y,B⟩:=AJN q;simp only[AJ,Lv.bZ,AXV j,y,AH,B];exact⟨trivial,trivial⟩
  .cases h
theorem dN{k:Nat}:∀{ls:List AT} {us:List U},Fl k ls=some us->us.length=ls.length
 | [],us,h=>by cases h;rfl
 |l::ls,us,h=>by
  simp only[Fl]at h;split at h
  .rename_i x xs q j;cases h;simp only[AH,dN j]
  .cases h
def chunks:List C->List U->List (List U)| [],_=>[]|c::cs,us=>us.take c.size::chunks cs (us.drop c.size)
theorem dU:∀(cs:List C) (us:List U),(chunks cs us).length=cs.length| [],_=>rfl|c::cs,us=>by simp only[chunks,AH,dU cs]
theorem aG:∀(cs:List C) (us:List U),us.length=Un cs->(chunks cs us).flatten=us
 | [],us,h=>by cases us with|nil=>rfl|cons u us=>cases h
 |c::cs,us,h=>by
  simp only[Un]at h;simp only[chunks,List.flatten_cons];rw[aG cs _ (by rw[BK];omega),IK]
theorem dT:∀(cs j:List C) (us os:List U),us.length=Un cs->chunks (cs++j) (us++os)=chunks cs us++chunks j os
 | [],j,us,os,h=>by cases us with|nil=>rfl|cons u us=>cases h
 |c::cs,j,us,os,h=>by
  simp only[Un]at h;simp only[List.cons_append,chunks];rw[List.take_append_of_le_length (by omega),List.drop_append_of_le_length (by omega),dT cs j _ os (by rw[BK];omega)]
theorem lR:∀{cs:List C} {us:List U} {x:Tu cs},ofT cs us=some x->Qm cs x=(chunks cs us).map (List.map U.fg)
 | [],us,x,h=>rfl| [c],us,x,h=>by
  have j:ofC c us=some x:=h;show [enc c x]=_;rw[Ik j];simp only[chunks,AJ,BY];rw[List.take_of_length_le (by rw[AVJ j];exact Ad _)]
 |c::q::cs,us,x,h=>by
  simp only[ofT]at h;split at h
  .rename_i a b y B;cases h;show enc c a::Qm (q::cs) b=_;rw[Ik y,lR B];rfl
  .cases h
theorem Lc{S:St}:∀{ks:List PK} {i:Nat} {os:List U},FI i ks S=some os->Lv.FI i (ks.map PK.md) (S.fg R)=some ((chunks (La ks) os).map (List.map U.fg))/\os.length=Un (La ks)
 | [],i,os,h=>by cases h;exact⟨rfl,rfl⟩
 |.b c::ks,i,os,h=>by
  simp only[FI]at h;split at h
  .rename_i ls J B E;obtain⟨G,H⟩:=Lc (ks:=ks) E;split at h
   .rename_i q;split at h
    .rename_i us y;cases h;have j:us.length=c.size:=by rw[dN y,q.2]
     have I:i∈(S.fg R).pin:=mem_iff.1 q.1;refine⟨?_,by simp only[AK,La,Un,j,H]⟩;simp only[AJ,PK.md,Lv.FI,Pz,B,Ar,G,La,chunks];rw[AX I,PZ y,Cx j,Ck j];rfl
    .cases h
   .cases h
  .cases h
 |.m c::ks,i,os,h=>by
  simp only[FI]at h;split at h
  .rename_i e J B E;obtain⟨G,H⟩:=Lc (ks:=ks) E;split at h
   .rename_i q;split at h
    .rename_i us y;cases h;obtain⟨L,O⟩:=AJN (R:=R) y;have j:us.length=c.size:=by rw[O,q.2.2]
     have I:i∈(S.fg R).pin:=mem_iff.1 q.1;refine⟨?_,by simp only[AK,La,Un,j,H]⟩;simp only[AJ,PK.md,Lv.FI,XJ,B,Ar,G,La,chunks,Ent.fg,An];rw[AX ⟨I,q.2.1⟩,L,Cx j,Ck j];rfl
    .cases h
   .cases h
  .cases h
 |.v c::ks,i,os,h=>Lc (ks:=ks) h|.p c::ks,i,os,h=>Lc (ks:=ks) h|.o c::ks,i,os,h=>Lc (ks:=ks) h|.f x l::ks,i,os,h=>Lc (ks:=ks) h
theorem ABd:∀(cs:List C) (x:Tu cs),(Qm cs x).map List.length=cs.map C.size
 | [],x=>rfl| [c],x=>congrArg (fun n=>[n]) (OZ c x)|c::j::cs,x=>by
  obtain⟨a,b⟩:=x;show (enc c a).length::(Qm (j::cs) b).map List.length=_;rw[ABd (j::cs) b,OZ];rfl
theorem Lb:∀(ks:List PK) (a:A ks) (os:List (List T)),os.map List.length=(La ks).map C.size->Lv.Gi (ks.map PK.md) (aVs ks a) os=true
 | [],a,[],h=>rfl| [],a,o::os,h=>by cases h
 |.b c::ks,a,[],h=>by cases h
 |.b c::ks,a,o::os,h=>by
  obtain⟨j,q⟩:=a;simp only[La,AJ,Cc]at h;have y:(enc c j).length=c.size:=OZ c j;show (o.length==(enc c j).length&&Lv.Gi (ks.map PK.md) (aVs ks q) os)=true;rw[y,h.1,Lb ks q os h.2];simp
 |.m c::ks,a,[],h=>by cases h
 |.m c::ks,a,o::os,h=>by
  simp only[La,AJ,Cc]at h;exact Lb ks a.2 os h.2
 |.v c::ks,a,os,h=>Lb ks a.2 os h|.p c::ks,a,os,h=>Lb ks a.2 os h|.o c::ks,a,os,h=>Lb ks a.2 os h|.f x l::ks,a,os,h=>Lb ks a.2 os h
end
def YF.er(f:YF):CI:=.mk (f.ps.map PK.md) f.rs f.body.er
theorem ADs{f:YF}{S:St}{r:Tu (f.rk.cs++La f.ps)}(h:fin f.ps f.rk f.rs S=some r) :
 Lv.fin (f.ps.map PK.md) f.rs (S.fg f.R) f.rk.sh ((Qm _ r).take f.rk.cs.length).flatten ((Qm _ r).drop f.rk.cs.length):=by
 unfold fin at h;obtain⟨S',us,B,h⟩:=AVe (R:=f.R) h;split at h
 .rename_i os G;split at h
  .rename_i y;obtain⟨E,H⟩:=Lc (R:=f.R) G;have q:=lR h;rw[dT _ _ _ _ y,Dn]at q;have j:((chunks f.rk.cs us).map (List.map U.fg)).length=f.rk.cs.length:=by rw[An,dU]
   rw[q,Cx j,Ck j];refine⟨S'.fg f.R,?_,E⟩;rw[B,<-KI,aG _ _ y]
  .cases h
 .cases h
theorem YF.sound{f:YF}(q:ACQ f.ps=true)(j:f.fs.map (fun n=>(f.R[n]?).map GF.x)=(fX f.ps).map some){a:A f.ps}{r:Tu (f.rk.cs++La f.ps)}(h:f.run a=some r) :
 Ji f.er (aVs f.ps a) f.rk.sh ((Qm _ r).take f.rk.cs.length).flatten ((Qm _ r).drop f.rk.cs.length):=by
 unfold YF.run at h;rw[E5]at h;refine .intro ⟨_,N5 (R:=f.R) f.ps 0 f.fs a ⟨[],[],[],0⟩ q j,?_,?_⟩
 .grind[EK,ADs]
 grind[Lb,ABd,La,List.map_drop,List.drop_left',List.length_map]
def YF.gf(f:YF)(hp:ACQ f.ps=true)(hf:f.fs.map (fun n=>(f.R[n]?).map GF.x)=(fX f.ps).map some)(d:A f.ps->Option (Tu (f.rk.cs++La f.ps)))(hd:∀a,f.run a=d a):GF:=
 ⟨f.er,f.ps,f.rk,d,rfl,fun a r h=>YF.sound hp hf ((hd a).trans h)⟩
end Y
end Lv
namespace Lv
open Y
open Go
def nL(c:C)(xs:List c.D)(i:Int)(ys:List c.D):Option (List c.D):=
 if 0<=i/\i.toNat<=xs.length/\ys≠[]/\xs.length+ys.length<=lim then some (xs.take i.toNat++ys++xs.drop i.toNat) else none
theorem ARP{c:C}(q:UY c=true)(xs:List c.D)(i:Int)(ys:List c.D)(r:List c.D)(h:nL c xs i ys=some r) :
 Ji (.Mj (2*c.size) [.o,.v,.v]) [.o .one (enc (.l c) xs),.v .one (enc .i i),.v .one (enc (.l c) ys)] .one (enc (.l c) r) []:=by
 unfold nL at h;split at h
 .rename_i j;cases h;intro Rn hRn;refine hRn _ _ _ _ _ ?_;show UR (2*c.size) _ _ _ _;unfold UR;refine⟨by omega,?_⟩;rw[AX (by omega)];refine⟨_,xs.map (enc c),_,ys.map (enc c),i,rfl,rfl,?_,rfl,?_,I4 q _,I4 q _,j.1,by simpa using j.2.1,by simpa using j.2.2.1,by simpa using j.2.2.2,rfl,?_,rfl⟩
  .simp[eOf]
  .simp[eOf]
  .show [T.sl c.size ((xs.take i.toNat++ys++xs.drop i.toNat).map (enc c))]=_;simp[Co,CY]
 .cases h
def AW4(c:C)(hf:UY c=true):GF:=
 ⟨.Mj (2*c.size) [.o,.v,.v],[.o (.l c),.v .i,.v (.l c)],.ret [.l c],fun a=>nL c a.1 a.2.1 a.2.2.1,rfl,fun a r h=>ARP hf _ _ _ r h⟩
def ABa(c:C)(xs:List c.D)(i j:Int):Option (List c.D):=
 if 0<=i/\i<j/\j<=xs.length then some (xs.take i.toNat++xs.drop j.toNat) else none
theorem ANv{c:C}(E:UY c=true)(y:decide (0<c.size)=true)(xs:List c.D)(i j:Int)(r:List c.D)(h:ABa c xs i j=some r) :
 Ji (.Mj (2*c.size+1) [.o,.v,.v]) [.o .one (enc (.l c) xs),.v .one (enc .i i),.v .one (enc .i j)] .one (enc (.l c) r) []:=by
 unfold ABa at h;split at h
 .rename_i q;cases h;intro Rn hRn;refine hRn _ _ _ _ _ ?_;show UR (2*c.size+1) _ _ _ _;unfold UR;have B:(2*c.size+1) / 2=c.size:=by omega
  have y:=of_decide_eq_true y;refine⟨by omega,?_⟩;rw[AU (by omega),B];refine⟨xs.map (enc c),i,j,rfl,I4 E _,q.1,q.2.1,by simpa using q.2.2,rfl,?_,rfl⟩;show [T.sl c.size ((xs.take i.toNat++xs.drop j.toNat).map (enc c))]=_;simp[Co,CY]
 .cases h
def AWt(c:C)(hf:UY c=true)(hs:decide (0<c.size)=true):GF:=
 ⟨.Mj (2*c.size+1) [.o,.v,.v],[.o (.l c),.v .i,.v .i],.ret [.l c],fun a=>ABa c a.1 a.2.1 a.2.2.1,rfl,fun a r h=>ANv hf hs _ _ _ r h⟩
structure xy(ps:List PK)(rk:RK) where
 x:CI
 d:A ps->Option (Tu (rk.cs++La ps))
 ms:Ef x=ps.map PK.md
 ok:∀a r,d a=some r->Ji x (aVs ps a) rk.sh ((Qm _ r).take rk.cs.length).flatten ((Qm _ r).drop rk.cs.length)
def xy.gf{ps:List PK}{rk:RK}(r:xy ps rk):GF:=⟨r.x,ps,rk,r.d,r.ms,r.ok⟩
def xy.of(g:GF):xy g.ps g.rk:=⟨g.x,g.d,g.ms,g.ok⟩
def xy.nil(ps:List PK)(rk:RK):xy ps rk:=⟨.Mj 1 (ps.map PK.md),fun _=>none,rfl,fun _ _ h=>by cases h⟩
end Lv
namespace Lv
open Go (IntKind BinOp UnOp)
section
variable{a b c d e f g h:Type}
def Bd(k:a->h)(x:a×b):h:=k x.1
def BF(k:a->b->h)(x:a×b×c):h:=k x.1 x.2.1
def GL(k:a->b->c->h)(x:a×b×c×d):h:=k x.1 x.2.1 x.2.2.1
def Vi(k:a->b->c->d->h)(x:a×b×c×d×e):h:=k x.1 x.2.1 x.2.2.1 x.2.2.2.1
def AGE(k:a->b->c->d->e->h)(x:a×b×c×d×e×f):h:=k x.1 x.2.1 x.2.2.1 x.2.2.2.1 x.2.2.2.2.1
def AGF(k:a->b->c->d->e->f->h)(x:a×b×c×d×e×f×g):h:=k x.1 x.2.1 x.2.2.1 x.2.2.2.1 x.2.2.2.2.1 x.2.2.2.2.2.1
end
namespace Y
def YF.EY(f:YF)(d:A f.ps->Option (Tu (f.rk.cs++La f.ps)))(hd:∀a,f.run a=d a:=by intro a;kernel_rfl)(hp:ACQ f.ps=true:=by rfl)(hf:f.fs.map (fun n=>(f.R[n]?).map GF.x)=(fX f.ps).map some:=by rfl):GF:=f.gf hp hf d hd
end Y
def TZ{γ:Type}(x y:B0)(X:Option γ):Option γ:=eqv x.Data y.Data (eqv x.Safe y.Safe X)
theorem Ox{γ:Type}(x:B0)(X:Option γ):TZ x x X=X:=by unfold TZ;simp only[Cm]
def Ra{γ:Type}(x y:C6)(X:Option γ):Option γ:=eqv x.Code y.Code (eqv x.Ids y.Ids X)
theorem xl{γ:Type}(x:C6)(X:Option γ):Ra x x X=X:=by unfold Ra;simp only[Cm]
def xn{γ:Type}(x y:DX)(X:Option γ):Option γ:=eqv x.TE y.TE (eqv x.at_ y.at_ (eqv x.yI y.yI X))
theorem xp{γ:Type}(x:DX)(X:Option γ):xn x x X=X:=by unfold xn;simp only[Cm]
def Im{γ:Type}(x y:AZ)(X:Option γ):Option γ:=eqv x.b_ y.b_ (eqv x.i_ y.i_ (eqv x.h_ y.h_ X))
theorem K1{γ:Type}(x:AZ)(X:Option γ):Im x x X=X:=by unfold Im;simp only[Cm]
def xj{γ:Type}(x y:Ai)(X:Option γ):Option γ:=eqv x.Level y.Level (eqv x.Av y.Av (eqv x.Id y.Id (eqv x.BC y.BC X)))
theorem xk{γ:Type}(x:Ai)(X:Option γ):xj x x X=X:=by unfold xj;simp only[Cm]
def AWW{γ:Type}(x y:B1)(X:Option γ):Option γ:=eqv x.Kind y.Kind (eqv x.Id y.Id (eqv x.Aa y.Aa (eqv x.Bl y.Bl (eqv x.BC y.BC (eqv x.Cs y.Cs X)))))
theorem Vj{γ:Type}(x:B1)(X:Option γ):AWW x x X=X:=by unfold AWW;simp only[Cm]
def xm{γ:Type}(x y:Bo)(X:Option γ):Option γ:=eqv x.Log.Data y.Log.Data (eqv x.Log.Safe y.Log.Safe (eqv x.FH.Data y.FH.Data (eqv x.FH.Safe y.FH.Safe (eqv x.Odd.Data y.Odd.Data (eqv x.Odd.Safe y.Odd.Safe X)))))
theorem Rb{γ:Type}(x:Bo)(X:Option γ):xm x x X=X:=by unfold xm;simp only[Cm]
def CW{γ:Type}(x y:Ab)(X:Option γ):Option γ:=eqv x.AY y.AY (eqv x.CX y.CX (eqv x.Room y.Room (eqv x.BC y.BC (eqv x.CQ y.CQ (eqv x.B3 y.B3 (eqv x.Rest y.Rest (eqv x.Cb y.Cb (eqv x.C5 y.C5 X))))))))
theorem NP{γ:Type}(x:Ab)(X:Option γ):CW x x X=X:=by unfold CW;simp only[Cm]
def K0{γ:Type}(x y:AQ)(X:Option γ):Option γ:=eqv x.Id y.Id (eqv x.Aa y.Aa (eqv x.Bl y.Bl (eqv x.BC y.BC (eqv x.Cs y.Cs (eqv x.Since y.Since (eqv x.Av y.Av (eqv x.State y.State (eqv x.Ci y.Ci (eqv x.C0 y.C0 X)))))))))
theorem Ee{γ:Type}(x:AQ)(X:Option γ):K0 x x X=X:=by unfold K0;simp only[Cm]
def Lr{γ:Type}(x y:AE)(X:Option γ):Option γ:=eqv x.AS.AY y.AS.AY (eqv x.AS.CX y.AS.CX (eqv x.AS.Room y.AS.Room (eqv x.AS.BC y.AS.BC (eqv x.AS.CQ y.AS.CQ (eqv x.AS.B3 y.AS.B3 (eqv x.AS.Rest y.AS.Rest (eqv x.AS.Cb y.AS.Cb (eqv x.AS.C5 y.AS.C5 (eqv x.Now y.Now (eqv x.Av y.Av (eqv x.AG y.AG (eqv x.AI y.AI (eqv x.BA y.BA (eqv x.A4 y.A4 X))))))))))))))
theorem Kz{γ:Type}(x:AE)(X:Option γ):Lr x x X=X:=by unfold Lr;simp only[Cm]
def ADK{γ:Type}(x y:Af)(X:Option γ):Option γ:=eqv x.Bb.AS.AY y.Bb.AS.AY (eqv x.Bb.AS.CX y.Bb.AS.CX (eqv x.Bb.AS.Room y.Bb.AS.Room (eqv x.Bb.AS.BC y.Bb.AS.BC (eqv x.Bb.AS.CQ y.Bb.AS.CQ (eqv x.Bb.AS.B3 y.Bb.AS.B3 (eqv x.Bb.AS.Rest y.Bb.AS.Rest (eqv x.Bb.AS.Cb y.Bb.AS.Cb (eqv x.Bb.AS.C5 y.Bb.AS.C5 (eqv x.Bb.Now y.Bb.Now (eqv x.Bb.Av y.Bb.Av (eqv x.Bb.AG y.Bb.AG (eqv x.Bb.AI y.Bb.AI (eqv x.Bb.BA y.Bb.BA (eqv x.Bb.A4 y.Bb.A4 (eqv x.A9.Log.Data y.A9.Log.Data (eqv x.A9.Log.Safe y.A9.Log.Safe (eqv x.A9.FH.Data y.A9.FH.Data (eqv x.A9.FH.Safe y.A9.FH.Safe (eqv x.A9.Odd.Data y.A9.Odd.Data (eqv x.A9.Odd.Safe y.A9.Odd.Safe (eqv x.Seq y.Seq (eqv x.Laid y.Laid X))))))))))))))))))))))
theorem PR{γ:Type}(x:Af)(X:Option γ):ADK x x X=X:=by unfold ADK;simp only[Cm]
def ET:List U:=[.nil,.int .i64 0,.int .i64 0,.int .i64 0,.int .i64 0,.int .i64 0,.int .i64 0,.int .i64 0,.int .i64 0,.int .i64 0,.int .i64 0,.nil,.nil,.nil,.nil]
def AV0:List U:=[.int .i64 0,.int .i64 0,.int .i64 0,.int .i64 0,.int .i64 0,.int .i64 0,.int .i64 0,.int .i64 0,.int .i64 0,.int .i64 0]
def AVz:List U:=[.int .i64 0,.int .i64 0,.int .i64 0,.int .i64 0,.int .i64 0,.nil,.nil]
def ev2{α0 α1 γ:Type}(a0:α0)(a1:α1)(X:Option γ):Option γ:=eqv a0 a0 (eqv a1 a1 X)
theorem JW{α0 α1 γ:Type}(a0:α0)(j:α1)(X:Option γ):ev2 a0 j X=X:=by unfold ev2;simp only[Cm]
def ev3{α0 α1 α2 γ:Type}(a0:α0)(a1:α1)(a2:α2)(X:Option γ):Option γ:=eqv a0 a0 (eqv a1 a1 (eqv a2 a2 X))
theorem JX{α0 α1 α2 γ:Type}(a0:α0)(j:α1)(q:α2)(X:Option γ):ev3 a0 j q X=X:=by unfold ev3;simp only[Cm]
def ev4{α0 α1 α2 α3 γ:Type}(a0:α0)(a1:α1)(a2:α2)(a3:α3)(X:Option γ):Option γ:=eqv a0 a0 (eqv a1 a1 (eqv a2 a2 (eqv a3 a3 X)))
theorem JY{α0 α1 α2 α3 γ:Type}(a0:α0)(j:α1)(q:α2)(a3:α3)(X:Option γ):ev4 a0 j q a3 X=X:=by unfold ev4;simp only[Cm]
def ev5{α0 α1 α2 α3 α4 γ:Type}(a0:α0)(a1:α1)(a2:α2)(a3:α3)(a4:α4)(X:Option γ):Option γ:=eqv a0 a0 (eqv a1 a1 (eqv a2 a2 (eqv a3 a3 (eqv a4 a4 X))))
theorem JZ{α0 α1 α2 α3 α4 γ:Type}(a0:α0)(j:α1)(q:α2)(a3:α3)(a4:α4)(X:Option γ):ev5 a0 j q a3 a4 X=X:=by unfold ev5;simp only[Cm]
def ev6{α0 α1 α2 α3 α4 α5 γ:Type}(a0:α0)(a1:α1)(a2:α2)(a3:α3)(a4:α4)(a5:α5)(X:Option γ):Option γ:=eqv a0 a0 (eqv a1 a1 (eqv a2 a2 (eqv a3 a3 (eqv a4 a4 (eqv a5 a5 X)))))
theorem I3{α0 α1 α2 α3 α4 α5 γ:Type}(a0:α0)(j:α1)(q:α2)(a3:α3)(a4:α4)(y:α5)(X:Option γ):ev6 a0 j q a3 a4 y X=X:=by unfold ev6;simp only[Cm]
def ev7{α0 α1 α2 α3 α4 α5 α6 γ:Type}(a0:α0)(a1:α1)(a2:α2)(a3:α3)(a4:α4)(a5:α5)(a6:α6)(X:Option γ):Option γ:=eqv a0 a0 (eqv a1 a1 (eqv a2 a2 (eqv a3 a3 (eqv a4 a4 (eqv a5 a5 (eqv a6 a6 X))))))
theorem Ja{α0 α1 α2 α3 α4 α5 α6 γ:Type}(a0:α0)(j:α1)(q:α2)(a3:α3)(a4:α4)(y:α5)(B:α6)(X:Option γ):ev7 a0 j q a3 a4 y B X=X:=by unfold ev7;simp only[Cm]
def ev8{α0 α1 α2 α3 α4 α5 α6 α7 γ:Type}(a0:α0)(a1:α1)(a2:α2)(a3:α3)(a4:α4)(a5:α5)(a6:α6)(a7:α7)(X:Option γ):Option γ:=eqv a0 a0 (eqv a1 a1 (eqv a2 a2 (eqv a3 a3 (eqv a4 a4 (eqv a5 a5 (eqv a6 a6 (eqv a7 a7 X)))))))
theorem Jb{α0 α1 α2 α3 α4 α5 α6 α7 γ:Type}(a0:α0)(j:α1)(q:α2)(a3:α3)(a4:α4)(y:α5)(B:α6)(E:α7)(X:Option γ):ev8 a0 j q a3 a4 y B E X=X:=by unfold ev8;simp only[Cm]
def orE{ρ:Type}(a b:Option ρ):Option ρ:=match a with|some r=>some r|none=>b
def GF.orE(g:GF)(d d2:A g.ps->Option (Tu (g.rk.cs++La g.ps)))(hd:∀a,d a=Lv.orE (g.d a) (d2 a))
 (hk:∀a r,d2 a=some r->Ji g.x (aVs g.ps a) g.rk.sh ((Qm _ r).take g.rk.cs.length).flatten ((Qm _ r).drop g.rk.cs.length)):GF:=
 ⟨g.x,g.ps,g.rk,d,g.ms,fun a r h=>by
  rw[hd]at h;unfold Lv.orE at h;split at h
  .rename_i r' h';cases h;exact g.ok a _ h'
  .exact hk a r h⟩
namespace Y
section
variable{R:List GF}
def qn(l:List (YOp R)):List (Option (Nat×Bool)×YOp R):=l.map fun o=>(none,o)
def qf(g:Nat)(l:List (YOp R)):List (Option (Nat×Bool)×YOp R):=l.map fun o=>(some (g,false),o)
def qt(g:Nat)(l:List (YOp R)):List (Option (Nat×Bool)×YOp R):=l.map fun o=>(some (g,true),o)
def qr(l:List (List (Option (Nat×Bool)×YOp R)))(FV:List Nat):Gn R:=.region l.flatten FV
def q1(l:List (YOp R))(FV:List Nat):Gn R:=.region (qn l) FV
def qdl(r:Bu R):Nat->List (Option (Nat×Bool)×YOp R)->Bu R|_,[]=>r|i,o::l=>.op i o.1 [] o.2 (qdl r (i+1) l)
def qd(i:Nat)(l:List (List (Option (Nat×Bool)×YOp R)))(r:Bu R):Bu R:=qdl r i l.flatten
def qm(d s:Nat):YOp R:=.mv d (.tmp s)
def qa(d s:Nat):YOp R:=.as d (.tmp s)
def qo(d o s:Nat):YOp R:=.fa d o (.tmp s)
def ql(d s:Nat):YOp R:=.ld d none (.tmp s)
def qL(d n s:Nat):YOp R:=.ld d (some n) (.tmp s)
def qb(d:Nat)(o:BinOp)(x y:Nat):YOp R:=.bin d .num o (.tmp x) (.tmp y)
def qi(d:Nat)(o:BinOp)(x:Nat)(n:Int):YOp R:=.bin d .num o (.tmp x) (.k (.int .i64 n))
def qx(d s:Nat):YOp R:=.un d .not (.tmp s)
def qp(d c x:Nat):YOp R:=.pick d (.tmp c) (.k (.bool true)) (.tmp x)
def qq(d c x:Nat):YOp R:=.pick d (.tmp c) (.tmp x) (.k (.bool false))
def qc(d:Nat)(g:GF)(hf:([]:List Nat).map (fun n=>(R[n]?).map GF.x)=(fX g.ps).map some)(l:List Nat):YOp R:=.call d g [] hf (l.map .tmp)
def qz(d s:Nat):YOp R:=.len d (.tmp s)
def qe(d:Nat)(c:C)(x i:Nat):YOp R:=.ia d c (.tmp x) (.tmp i)
def qk(d:Nat)(n:Int):YOp R:=.mv d (.k (.int .i64 n))
def qK(d:Nat)(n:Int):YOp R:=.as d (.k (.int .i64 n))
def qB(d:Nat)(b:Bool):YOp R:=.as d (.k (.bool b))
def qw(n x v:Nat):YOp R:=.st n (.tmp x) (.tmp v)
def qu(d s:Nat):YOp R:=.box d (.tmp s)
def qj(n:Int):YO:=.k (.int .i64 n)
instance (n:Nat):OfNat YO n:=⟨.tmp n⟩
def kpF:Nat->Nat->Nat->List Nat
 |0,_,_=>[]|f+1,i,n=>match Nat.beq n 0 with|true=>[]|false=>match Nat.testBit n 0 with|true=>i::kpF f (i+1) (n / 2)|false=>kpF f (i+1) (n / 2)
def wU:Nat->List (Nat->Nat->YOp R)->List (YOp R)|_,[]=>[]|0,f::l=>f 0 0::wU 1 l|k+1,f::l=>f (k+1) k::wU (k+2) l
def wn(d:Nat)(l:List (Nat->Nat->YOp R)):List (Option (Nat×Bool)×YOp R):=qn (wU d l)
def wf(g d:Nat)(l:List (Nat->Nat->YOp R)):List (Option (Nat×Bool)×YOp R):=qf g (wU d l)
def wt(g d:Nat)(l:List (Nat->Nat->YOp R)):List (Option (Nat×Bool)×YOp R):=qt g (wU d l)
def w1(d:Nat)(l:List (Nat->Nat->YOp R))(FV:List Nat):Gn R:=q1 (wU d l) FV
def sw(d:Nat)(l:List (Nat->Nat->YOp R))(FV:List Nat)(b:Gn R):Gn R:=.seq (q1 (wU d l) FV) b
def sq(l:List (YOp R))(FV:List Nat)(b:Gn R):Gn R:=.seq (q1 l FV) b
def sr(l:List (List (Option (Nat×Bool)×YOp R)))(FV:List Nat)(b:Gn R):Gn R:=.seq (qr l FV) b
def wm(s d _p:Nat):YOp R:=.mv d (.tmp s)
def wM(d p:Nat):YOp R:=.mv d (.tmp p)
def wo(o s d _p:Nat):YOp R:=.fa d o (.tmp s)
def wO(o d p:Nat):YOp R:=.fa d o (.tmp p)
def wl(s d _p:Nat):YOp R:=.ld d none (.tmp s)
def wL(d p:Nat):YOp R:=.ld d none (.tmp p)
def wk(n s d _p:Nat):YOp R:=.ld d (some n) (.tmp s)
def wK(n d p:Nat):YOp R:=.ld d (some n) (.tmp p)
def wz(s d _p:Nat):YOp R:=.len d (.tmp s)
def wZ(d p:Nat):YOp R:=.len d (.tmp p)
def wx(s d _p:Nat):YOp R:=.un d .not (.tmp s)
def wX(d p:Nat):YOp R:=.un d .not (.tmp p)
def wb(o:BinOp)(x y d _p:Nat):YOp R:=.bin d .num o (.tmp x) (.tmp y)
def wB(o:BinOp)(x d p:Nat):YOp R:=.bin d .num o (.tmp x) (.tmp p)
def wi(o:BinOp)(x:Nat)(n:Int)(d _p:Nat):YOp R:=.bin d .num o (.tmp x) (.k (.int .i64 n))
def wI(o:BinOp)(n:Int)(d p:Nat):YOp R:=.bin d .num o (.tmp p) (.k (.int .i64 n))
def wr(c x d _p:Nat):YOp R:=.pick d (.tmp c) (.k (.bool true)) (.tmp x)
def wR(c d p:Nat):YOp R:=.pick d (.tmp c) (.k (.bool true)) (.tmp p)
def wq(c x d _p:Nat):YOp R:=.pick d (.tmp c) (.tmp x) (.k (.bool false))
def wQ(c d p:Nat):YOp R:=.pick d (.tmp c) (.tmp p) (.k (.bool false))
def we(c:C)(x i d _p:Nat):YOp R:=.ia d c (.tmp x) (.tmp i)
def wE(c:C)(x d p:Nat):YOp R:=.ia d c (.tmp x) (.tmp p)
def wc(g:GF)(hf:([]:List Nat).map (fun n=>(R[n]?).map GF.x)=(fX g.ps).map some)(l:List YO)(d _p:Nat):YOp R:=.call d g [] hf l
def wY(g:GF)(hf:([]:List Nat).map (fun n=>(R[n]?).map GF.x)=(fX g.ps).map some)(d p:Nat):YOp R:=.call d g [] hf [.tmp p]
def wj(n:Int)(d _p:Nat):YOp R:=.mv d (.k (.int .i64 n))
def wh(f:Nat->YOp R)(d _p:Nat):YOp R:=f d
def Kp(n:Nat):List Nat:=kpF 300 0 n
def cv(n:Nat)(c:C):Bool×Nat×Sh×List AL:=(false,n,.one,[.val c none])
def ca(n:Nat)(c:C):Bool×Nat×Sh×List AL:=(false,n,.agg,[.val c none])
def cx(n:Nat)(c:C):Bool×Nat×Sh×List AL:=(true,n,.one,[.val c none])
def cn(c:Nat)(ke:List Nat)(t:Gn R):Gn R:=.cond c [] ke t .skip
def ce(c:Nat)(kt ke:List Nat)(id:Nat):Gn R:=.cond c kt ke .skip (.exit id)
def bl(id:Nat)(c:Cut)(b:Gn R):Gn R:=.block id (.loop c b)
end
end Y
end Lv
namespace Lv
open Go
section
variable{A:Nat->Nat->List Md->Prop}{P:Program}
def fnd(n:Nat)(ms:List Md):List (Nat×CI)->Option CI
 | []=>none|p::r=>match Nat.beq p.1 n&&decide (Ef p.2=ms) with|true=>some p.2|false=>fnd n ms r
theorem tN {n ms x}:∀{r:List (Nat×CI)},fnd n ms r=some x->(n,x)∈r
 | [],h=>by cases h
 |(k,y)::r,h=>by
  unfold fnd at h;split at h
  .rename_i j;cases h;rw[AF]at j;have q:k=n:=Nat.eq_of_beq_eq_true j.1;subst q;exact Be
  .exact Ax _ (tN h)
theorem Mt.at{r:List (Nat×CI)} {n x} (h:∀p∈r,Mt A P p.1 p.2) (e:fnd n (Ef x) r=some x):Mt A P n x:=h _ (tN e)
def caO(P:Program)(p:Nat×CI):List (Nat×CI):=match P.funcs[p.1]? with|some fn=>AGf fn p.2|none=>[]
def okO(P:Program)(p:Nat×CI):Bool:=match P.funcs[p.1]? with|some fn=>AVK P fn p.2|none=>false
def okM(P:Program):List (Nat×CI)->Bool| []=>true|p::l=>okO P p&&okM P l
def caM(P:Program):List (Nat×CI)->List (List (Nat×CI))| []=>[]|p::l=>caO P p::caM P l
def ex1(r:List (Nat×CI))(q:Nat×CI):Nat×CI:=match fnd q.1 (Ef q.2) r with|some x=>(q.1,x)|none=>(q.1+1,q.2)
def exM(P:Program):List (Nat×CI)->List (Nat×CI)->List (List (Nat×CI))| [],_=>[]|p::l,r=>(caO P p).map (ex1 r)::exM P l (p::r)
theorem AJH{α:Type}{f:α->α}:∀{l:List α},l=l.map f->∀x∈l,x=f x
 |a::l,h,x,j=>by
  injection h with q y;rcases Ag.1 j with rfl|j
  .exact q
  .exact AJH y x j
theorem Mt.s:∀{l r:List (Nat×CI)},(∀p∈r,Mt A P p.1 p.2)->okM P l=true->caM P l=exM P l r->∀p∈l.reverseAux r,Mt A P p.1 p.2
 | [],_,h,_,_=>h|p::l,r,h,G,J=>by
  unfold okM at G;unfold caM exM at J;rw[AF]at G;obtain⟨y,L⟩:=G;injection J with j B;refine Mt.s (l:=l) (r:=p::r) (fun q H=>?_) L B;rcases Ag.1 H with rfl|H
  .unfold okO at y;unfold caO at j;cases E:P.funcs[q.1]? with
   |none=>simp[E]at y|some fn=>
    simp only[E]at y j;refine Mt.by E y rfl fun t O=>?_
    have e:=AJH j t O;unfold ex1 at e;cases I:fnd t.1 (Ef t.2) r with
    |none=>
     rw[I]at e;have:=congrArg Prod.fst e;simp at this
    |some x=>
     rw[I]at e;rw[e];exact h _ (tN I)
  .exact h q H
def lX(l:List (Nat×GF)):List (Nat×CI):=l.map fun p=>(p.1,p.2.x)
end
end Lv
