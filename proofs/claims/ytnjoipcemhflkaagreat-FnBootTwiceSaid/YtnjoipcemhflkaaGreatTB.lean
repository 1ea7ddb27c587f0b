/- The typed machine is right about the light one. -/
import Derived.Test.YtnjoipcemhflkaaGreatTA
import Derived.KernelRfl
noncomputable section
set_option linter.unusedVariables false
set_option linter.unusedSimpArgs false
set_option linter.unusedSectionVars false
open Bool renaming and_eq_true->AF,false_and->Bm,false_eq_true->BM,not_eq_true'->BF
open List.cons renaming injEq->Cb
open List renaming drop_left'->Cl,ext_getElem?->Fc,getD_eq_getElem?_getD->A7,getElem?_eq_some_iff->AO,getElem?_map->A5,getElem?_set->D8,length_append->AK,length_cons->AI,length_drop->Bd,length_map->Af,length_nil->AP,map_append->Cz,map_cons->AJ,map_drop->CV,map_flatten->KD,map_map->D9,map_nil->BX,map_replicate->G0,map_set->Hc,map_take->Cn,mem_cons->Ag,mem_cons_of_mem->As,mem_cons_self->Bg,take_append_drop->IL,take_left'->C0
open Nat renaming beq_refl->Ms,le_refl->Ad,lt_succ_of_lt->Jj,not_lt->OR,sub_self->EB
open Option renaming getD_some->KI,map_some->An
open Option.some renaming injEq->AD
namespace Lv
open Go (IntKind BinOp UnOp)
theorem AJE{γ:Type}{b:Bool}{x y:Option γ}{r:γ}(h:br b x y=some r):(b=true/\x=some r)\/(b=false/\y=some r):=by
 grind[AX7]
theorem P0{γ:Type}{p:Prop} [Decidable p] {x:Option γ} {r:γ} (h:gd p x=some r):p/\x=some r:=by
 grind[ARF]
theorem V8{α γ:Type}{o:Option α}{f:α->Option γ}{r:γ}(h:bd o f=some r):∃a,o=some a/\f a=some r:=ob (AFI o f▸h)
theorem YT(X:List (List T))(i j:Nat)(o:T)(k:Nat):(JE X i j o)[k]?=if k=i then (X[i]?).map (fun row=>row.set j o) else X[k]?:=by
 grind[JE,List.getElem?_eq_getElem,List.getElem?_eq_none]
theorem APM(X:List (List T))(i j y q:Nat)(o t:T)(h:q≠j):JE (JE X y q t) i j o=JE (JE X i j o) y q t:=by
 apply Fc
 grind[YT,List.set_comm]
theorem APN(X:List (List T))(i j:Nat)(o t:T):JE (JE X i j t) i j o=JE X i j o:=by
 apply Fc;intro k;simp only[YT];by_cases q:k=i
 .subst q;simp only[if_true];cases X[k]? with|none=>rfl|some row=>simp
 .simp only[AR q]
namespace Y
section
variable{R:List GF}{ρ:Type}
theorem sL(i j:Nat)(o:T):∀(q:List (Nat×Nat)) (X:List (List T)),(∀p∈q,p.2≠j)->JE (M1 X q) i j o=M1 (JE X i j o) q
 | [],X,_=>rfl|(a,b)::q,X,h=>by
  simp only[M1];rw[sL i j o q _ (fun p y=>h p (by simp[y])),APM X i j a b o .top (h (a,b) (by simp))]
theorem AVE{c:C}{xs:List c.D}{i j:Nat}{o:U}{x y:c.D}(q:xs[i]?=some x)(h:ofC c ((cells c x).set j o)=some y):JE (xs.map (enc c)) i j o.fg=(xs.set i y).map (enc c):=by
 have B:i<xs.length:=(AO.1 q).1;apply Fc;intro k;simp only[YT,A5,D8];by_cases E:k=i
 .subst E;simp only[if_true,q,An,B,AD];rw[Ir h,FV,Hc]
 grind
theorem Nv:∀{ls:List AT} {us:List U} {S:St} {K:St->Option ρ} {r:ρ},HT S ls us K=some r ->
 ∃S',Lv.HT (S.fg R) (ls.map (AT.fg R)) (us.map U.fg)=some (S'.fg R)/\BU S S'/\K S'=some r
 | [],[],S,K,r,h=>⟨S,rfl,BU.refl _,h⟩| [],u::us,S,K,r,h=>by simp[HT]at h|l::ls,[],S,K,r,h=>by cases l<;>simp[HT]at h
 |l::ls,o::us,S,K,r,h=>by
  cases l with
  |t x=>
   have h:HT S ls us K=some r:=h;obtain⟨S',y,B,E⟩:=Nv h;exact⟨S',y,B,E⟩
  |al q sub=>
   cases sub with
   |some p=>simp[HT]at h|none=>
    have h:HT (S.Bk q (.ow o)) ls us K=some r:=h;obtain⟨S',y,B,E⟩:=Nv h;refine⟨S',?_,(BU.Bk _ _ _).trans B,E⟩;rw[Gp]at y;exact y
  |vw s c xs=>
   cases s with
   |old k=>simp[HT]at h|own q p=>
    cases p with
    |none=>simp[HT]at h|some p=>
     obtain⟨i,j⟩:=p;simp only[HT]at h;split at h
     .rename_i c' rows i' Z H I;split at h
      .rename_i Q;obtain⟨rfl,G⟩:=Q;obtain⟨rfl,h⟩:=P0 h;obtain⟨x,Y,h⟩:=V8 h;split at h
       .rename_i x' L;obtain⟨S',y,B,E⟩:=Nv h;refine⟨S',?_,((BU.Bk _ _ _).trans (BU.kill _ _)).trans B,E⟩;have J:∀p∈H,p.2≠Z:=by
         intro p X;have:=List.all_eq_true.1 G p X;intro O;simp[O]at this
        simp only[AJ,AT.fg,Lv.HT,Jl,I,An];rw[<-Kq (RE q),Gp]at y;rw[<-y];congr 3;simp only[M1];rw[sL _ _ _ H _ J,APN,AVE Y L];cases H with
        |nil=>simp only[AT.fg,U.fg,M1]|cons p H=>simp only[AT.fg]
       .cases h
      .cases h
     .cases h
  |_=>simp[HT]at h
theorem AWl(S0 S:Lv.St)(ms:List Md)(e:Lv.Ent)(es:List Lv.Ent)(outs:List (List T)):Lv.Fg S0 S (.b::ms) (e::es) outs=match AYe e,outs with
 |some id,o::outs=>(match Lv.get S0.bx id,Lv.get S.bx id with
  |some ls,some j=>if o.length=j.length then Lv.Fg S0 { S with bx:=Lv.put S.bx id (o.map (Lv.EZ (Lv.Da ls)))} ms es outs else none
  |_,_=>none)
 |_,_=>none:=by
 obtain⟨sh,cs⟩:=e;cases sh<;>try rfl
 rcases cs with _|⟨l,_|⟨q,ls⟩⟩
 .rfl
 .cases l<;>try rfl
  rename_i id off;cases off<;>cases outs<;>rfl
 .cases l<;>try rfl
  rename_i id off;cases off<;>rfl
theorem AX3{S0 S:St}{c:C}{ks:List PK}{e:En}{es:List En}{outs:List (List U)}{K:St->Option ρ}:Fg S0 S (.b c::ks) (e::es) outs K=match bp0 e,outs with
 |some id,o::outs=>(match get S0.bx id,get S.bx id with
  |some ls,some j=>if o.length=j.cs.length then Fg S0 (S.OM id (o.map (EZ (Da ls.cs)))) ks es outs K else none|_,_=>none)
 |_,_=>none:=by
 obtain⟨sh,cs⟩:=e;cases sh<;>try rfl
 rcases cs with _|⟨l,_|⟨q,ls⟩⟩
 .rfl
 .cases l<;>try rfl
  rename_i id off;cases off<;>cases outs<;>rfl
 .cases l<;>try rfl
  rename_i id off;cases off<;>rfl
theorem Ng{S0:St}:∀{ks:List PK} {es:List En} {outs:List (List U)} {S:St} {K:St->Option ρ} {r:ρ},Fg S0 S ks es outs K=some r ->
 ∃S',Lv.Fg (S0.fg R) (S.fg R) (ks.map PK.md) (es.map (En.fg R)) (outs.map fun o=>o.map U.fg)=some (S'.fg R)/\BU S S'/\K S'=some r
 | [],es,[],S,K,r,h=>by
  refine⟨S,?_,BU.refl _,?_⟩
  .cases es<;>rfl
  .cases es<;>exact h
 | [],es,o::outs,S,K,r,h=>by cases es<;>simp[Fg]at h
 |k::ks,[],outs,S,K,r,h=>by cases outs<;>simp[Fg]at h
 |k::ks,e::es,outs,S,K,r,h=>by
  cases k with
  |b c=>
   rw[AX3]at h;simp only[AJ,PK.md];rw[AWl,AQB];split at h
   .rename_i id o outs' J;rw[J];simp only[AJ,Pw];split at h
    .rename_i ls O L E;rw[L,E];split at h
     .rename_i B;obtain⟨S',j,q,y⟩:=Ng h;refine⟨S',?_,(BU.OM _ _ _).trans q,y⟩;simp only[An,Af,B,if_true];rw[UF,P7]at j;rw[N4];exact j
     .cases h
    .cases h
   .cases h
  |m c=>
   cases outs with
   |nil=>simp[Fg]at h|cons o outs=>
    have h:HT S e.cs o (fun S'=>Fg S0 S' ks es outs K)=some r:=h;obtain⟨S1,j,q,y⟩:=Nv (R:=R) h;obtain⟨S',G,H,I⟩:=Ng y;refine⟨S',?_,q.trans H,I⟩;simp only[AJ,PK.md,Lv.Fg,En.fg,j];exact G
  |v c=>
   have h:Fg S0 S ks es outs K=some r:=by cases outs<;>exact h
   obtain⟨S',j,q,y⟩:=Ng h;refine⟨S',?_,q,y⟩;cases outs<;>exact j
  |p c=>
   have h:Fg S0 S ks es outs K=some r:=by cases outs<;>exact h
   obtain⟨S',j,q,y⟩:=Ng h;refine⟨S',?_,q,y⟩;cases outs<;>exact j
  |o c=>
   have h:Fg S0 S ks es outs K=some r:=by cases outs<;>exact h
   obtain⟨S',j,q,y⟩:=Ng h;refine⟨S',?_,q,y⟩;cases outs<;>exact j
  |f x l=>
   have h:Fg S0 S ks es outs K=some r:=by cases outs<;>exact h
   obtain⟨S',j,q,y⟩:=Ng h;refine⟨S',?_,q,y⟩;cases outs<;>exact j
theorem mu{S:St}{d:Nat}{ls:List AT}{K:St->Option ρ}{r:ρ}(h:P9 S d ls K=some r):∃S',Lv.P9 (S.fg R) d (ls.map (AT.fg R))=some (S'.fg R)/\BU S S'/\K S'=some r:=by
 unfold P9 at h;split at h
 .cases h
 .rename_i j;have q:d∉(S.fg R).pin:=NU.1 j;refine⟨_,?_,((BU.kill _ _).trans (BU.J8 _ _ _ _)).trans (BU.OM _ _ _),h⟩;unfold Lv.P9;rw[AR q,UF,Lt,<-Kq (q':=fun l=>Lv.E8 d l||Lv.Fl d l) (fun l=>by rw[Xz,Xy])];rfl
theorem AWk{S:St}{e:En}{k:Nat}(h:mb S e=some k):Lv.mb (S.fg R) (e.fg R)=some k:=by
 have gen:∀(cs:List AT),(if (Fh (Da cs) cs).isSome=true then some (Da cs) else none)=some k->(if (Lv.Fh (Lv.Da (cs.map (AT.fg R))) (cs.map (AT.fg R))).isSome=true then some (Lv.Da (cs.map (AT.fg R))) else none)=some k:=by
  intro cs h;rw[N4];cases q:Fh (Da cs) cs with
  |none=>rw[q]at h;simp at h|some us=>rw[PX q];rw[q]at h;simpa using h
 obtain⟨sh,cs⟩:=e;cases sh<;>try exact gen cs h
 rcases cs with _|⟨l,_|⟨y,ls⟩⟩
 .exact gen [] h
 .have j:=gen [l];cases l with
  |bp id off=>
   grind[mb,En.fg,AT.fg,Lv.mb,Pw]
  |_=>exact j h
 .have j:=gen (l::y::ls);cases l<;>exact j h
theorem AMK{g:GF}{S0:St}{es:List En}{k lab:Nat}(h:mc g.ps S0 es k=some lab):Lv.mc g.x (S0.fg R) (es.map (En.fg R)) k=some lab:=by
 unfold mc at h;unfold Lv.mc;rw[g.ms];simp only[A5];split at h
 .rename_i e B;rw[B];simp only[An];split at h
  .cases h
  .rename_i E;rw[AR]
   .exact AWk h
   .intro j;cases y:g.ps[k]? with
    |none=>rw[y]at j;simp at j|some q=>rw[y]at j;cases q<;>simp[PK.md]at j;exact E _ y
 .cases h
theorem kf:∀(cs:List C) (x:Tu cs),Qj cs x=(SB cs x).map fun l=>l.map U.fg| [],_=>rfl| [c],x=>congrArg (fun z=>[z]) (FV c x)|c::j::cs,x=>by simp only[Qj,SB,AJ,FV,kf (j::cs) x.2]
theorem AW1{d:Nat}{g:GF}{es:List En}{S0 S:St}{x:Tu (g.rk.cs++Lb g.ps)}{K:St->Option ρ}{r:ρ}(h:post d g es S0 S x K=some r) :
 ∃S',Lv.post d g.x (es.map (En.fg R)) (S0.fg R) (S.fg R) g.rk.sh ((Qj _ x).take g.rk.cs.length).flatten ((Qj _ x).drop g.rk.cs.length)=some (S'.fg R)/\BU S S'/\K S'=some r:=by
 unfold post at h;obtain⟨S1,J,G,j⟩:=Ng (R:=R) h;unfold Lv.post;rw[g.ms,kf,<-CV,J,<-Cn,<-KD];generalize ((SB (g.rk.cs++Lb g.ps) x).take g.rk.cs.length).flatten=us at j;dsimp only;cases I:g.rk with
 |ptr k c=>
  rw[I]at j;simp only[RK.sh];dsimp only at j;split at j
  .rename_i lab H;rw[AMK H];obtain⟨S2,q,y,B⟩:=mu (R:=R) j;rw[P7]at q;exact⟨S2,q,G.trans y,B⟩
  .cases j
 |vw k c=>
  rw[I]at j;simp only[RK.sh];dsimp only at j;split at j
  .rename_i lab H;rw[AMK H];obtain⟨S2,q,y,B⟩:=dm (R:=R) j;rw[P7]at q;exact⟨S2,q,G.trans y,B⟩
  .cases j
 |ret cs=>
  rw[I]at j;dsimp only at j;obtain⟨S2,q,y,B⟩:=dm (R:=R) j;rw[aE]at q;refine⟨S2,?_,G.trans y,B⟩;simp only[RK.sh];cases E:AEk (cs.map wC) with
  |ptr k=>exfalso;revert E;unfold AEk;split<;>simp|vw k=>exfalso;revert E;unfold AEk;split<;>simp|one=>rw[E]at q;exact q|agg=>rw[E]at q;exact q|tup ns=>rw[E]at q;exact q
theorem AAO{d:Nat}{g:GF}{fs:List Nat}{es:List En}{S:St}{K:St->Option ρ}{r:ρ}(hA:Al R fs (fX g.ps))(h:AJT d g fs es S K=some r) :
 ∃S1 vs cs outs S',Lv.pre g.x (es.map (En.fg R)) (S.fg R)=some (S1,vs)/\Jb g.x vs g.rk.sh cs outs/\Lv.post d g.x (es.map (En.fg R)) (S.fg R) S1 g.rk.sh cs outs=some (S'.fg R)/\BU S S'/\K S'=some r:=by
 unfold AJT at h;split at h
 .cases h
 .rename_i H;split at h
  .rename_i S1 a j;obtain⟨x,I,h⟩:=V8 h;obtain⟨q,y⟩:=AP4 hA j;obtain⟨S',B,E,G⟩:=AW1 (R:=R) h;refine⟨_,_,_,_,S',?_,g.ok a x I,B,y.trans E,G⟩;unfold Lv.pre;rw[g.ms];have:=AAU (R:=R) g.ps [] es;rw[BX]at this;rw[this,H,AR (by decide),q]
  .cases h
end
end Y
end Lv
namespace Lv
open Go (IntKind BinOp UnOp)
namespace Y
section
variable{R:List GF}{ρ:Type}
theorem FG{S:St}{x:YO}{l:AT}(h:S.one x=some l):(S.fg R).one (x.er R)=some (AT.fg R l):=by
 unfold St.one at h;split at h
 .rename_i l' j;cases h;simp only[Lv.St.one,LO j,En.fg,AJ,BX]
 .cases h
theorem Ol{S:St}{x:YO}{u:U}(h:S.sc x=some u):(S.fg R).sc (x.er R)=some u.fg:=by
 unfold St.sc AIp at h;split at h
 .rename_i o l' j;cases h;simp only[Lv.St.sc,LO j,En.fg,AJ,BX,AT.fg,Lv.AIp]
 .cases h
theorem TH{S:St}{x:YO}{n:Int}(h:S.nat x=some n):(S.fg R).nat (x.er R)=some n:=by
 unfold St.nat at h;split at h
 .rename_i u j;simp only[Lv.St.nat,Ol j];cases u<;>simp[AZq]at h<;>subst h<;>rfl
 .cases h
theorem AYL{k:Kd}{a b:U}{c:Bool}(h:eqU k a b=some c):eqT k a.fg b.fg=some c:=by
 cases k<;>cases a<;>cases b<;>simp only[eqU]at h<;>first|cases h;done|exact h
theorem ALq:∀{ks:List Kd} {as j:List U} {c:Bool},ADL ks as j=some c->Ru ks (as.map U.fg) (j.map U.fg)=some c
 | [],[],[],c,h=>h| [],[],b::j,c,h=>by simp[ADL]at h| [],a::as,j,c,h=>by cases j<;>simp[ADL]at h
 |k::ks,[],j,c,h=>by cases j<;>simp[ADL]at h
 |k::ks,a::as,[],c,h=>by simp[ADL]at h|k::ks,a::as,b::j,c,h=>by
  simp only[ADL]at h;split at h
  .rename_i x y q B;cases h;simp only[AJ,Ru,AYL q,ALq B]
  .cases h
theorem zY:∀{ls:List AT} {us:List U},Vu ls=some us->Lv.Vu (ls.map (AT.fg R))=some (us.map U.fg)
 | [],us,h=>by cases h;rfl
 |l::ls,us,h=>by
  cases l with
  |t x=>
   simp only[Vu]at h;split at h
   .rename_i q j;cases h;simp only[AJ,AT.fg,Lv.Vu,zY j,An]
   .cases h
  |_=>simp[Vu]at h
theorem ARG{cst:Bool}{p:Prop} [Decidable p] {x:Option ρ} {r:ρ} (h:gdc cst p x=some r):p/\x=some r:=by
 cases cst with
 |true=>simp only[gdc]at h;split at h<;>simp_all|false=>exact P0 h
theorem AWd{cst:Bool}{op:BinOp}{k:IntKind}{a b:Int}{K:U->Option ρ}{r:ρ}(h:AYQ cst op k a b K=some r):∃u,bj op k a b=some (U.fg u)/\K u=some r:=by
 cases op<;>simp only[AYQ]at h<;>first
  |exact⟨_,rfl,h⟩|(obtain⟨j,h⟩:=ARG h;exact⟨_,by simp only[bj];rw[AR j];rfl,h⟩)
  |cases h
theorem AVI{cst:Bool}{op:BinOp}{k:IntKind}{a b:Int}{K:U->Option ρ}{r:ρ}(h:shU cst op k a b K=some r):∃u,AIq op k a b=some (U.fg u)/\K u=some r:=by
 cases op<;>simp only[shU]at h<;>first
  |cases h;done
  |(obtain⟨j,h⟩:=ARG h;exact⟨_,by simp only[AIq];rw[AR j];rfl,h⟩)
theorem AVY(n:Int):(U.u8 (toB n)).fg=.int .u8 (IntKind.u8.wrap n):=by simp only[U.fg,APl]
theorem AX8{op:BinOp}{a b:Int}{K:U->Option ρ}{r:ρ}(h:byU op a b K=some r):∃u,bj op .u8 a b=some (U.fg u)/\K u=some r/\AWg op=false:=by
 cases op<;>simp only[byU]at h<;>first
  |cases h;done
  |exact⟨_,by rw[AVY];rfl,h,rfl⟩|exact⟨_,rfl,h,rfl⟩
theorem uI{op:BinOp}{k j:IntKind}{a b:Int}:eE op (.int k a) (.int j b)=if AWg op=true then AIq op k a b else if k=j then bj op k a b else none:=by
 cases op<;>rfl
theorem AV0{cst:Bool}{op:BinOp}{x y:U}{K:U->Option ρ}{r:ρ}(h:AX4 cst op x y K=some r):∃u,eE op x.fg y.fg=some (U.fg u)/\K u=some r:=by
 unfold AX4 at h;split at h
 .rename_i k a E b;split at h
  .rename_i B;obtain⟨u,j,q⟩:=AVI h;exact⟨u,by show eE op (.int k a) (.int E b)=_;rw[uI,AW B];exact j,q⟩
  .rename_i B;split at h
   .rename_i H;split at h
    .cases h
    .obtain⟨u,j,q⟩:=AWd h;exact⟨u,by show eE op (.int k a) (.int E b)=_;rw[uI,AR B,AW H];exact j,q⟩
   .cases h
 .rename_i k a b;split at h
  .rename_i B;obtain⟨u,j,q⟩:=AVI h;exact⟨u,by show eE op (.int k a) (.int .u8 b.toNat)=_;rw[uI,AW B];exact j,q⟩
  .cases h
 .rename_i a b;obtain⟨u,j,q,G⟩:=AX8 h;exact⟨u,by show eE op (.int .u8 a.toNat) (.int .u8 b.toNat)=_;rw[uI,AR (by simp[G]),AW rfl];exact j,q⟩
 .rename_i a b;split at h
  .obtain⟨j,h⟩:=P0 h;exact⟨_,by show (if a.length+b.length<=Mn then some (T.str (a++b)) else none)=some (U.fg (.str (a++b)));rw[AW j];rfl,h⟩
  .exact⟨_,rfl,h⟩
  .exact⟨_,rfl,h⟩
  .cases h
 .cases h
theorem AFV{op:BinOp}{b:Bool}{K:U->Option ρ}{r:ρ}(h:eqK op b K=some r):∃u,pC op b=some (U.fg u)/\K u=some r:=by
 cases op<;>simp only[eqK]at h<;>first
  |cases h;done
  |exact⟨_,rfl,h⟩
theorem bn{α β:Type}{f:α->β}{xs:List α}(h:xs.isEmpty=false):∃y ys,xs.map f=y::ys:=by
 cases xs with
 |nil=>simp at h|cons x xs=>exact⟨_,_,rfl⟩
theorem AWs{S:St}{l:AT}{K:Bool->Option ρ}{r:ρ}(h:S.VY l K=some r):∃b,(S.fg R).VY (AT.fg R l)=some b/\K b=some r:=by
 unfold St.VY at h;split at h
 .exact⟨true,rfl,h⟩
 .rename_i s c xs;obtain⟨j,h⟩:=P0 h;obtain⟨y,ys,E⟩:=bn (f:=enc c) j;exact⟨false,by simp only[AT.fg,E,Lv.St.VY],h⟩
 .rename_i q;simp only[AT.fg,Lv.St.VY,Jl];split at h
  .rename_i B;rw[B];exact⟨true,rfl,h⟩
  .rename_i c xs B;rw[B];obtain⟨j,h⟩:=P0 h;obtain⟨y,ys,E⟩:=bn (f:=enc c) j;exact⟨false,by simp only[An,AT.fg,U.fg,E],h⟩
  .cases h
 .cases h
theorem AX5{S:St}{cst:Bool}{c:Cls}{op:BinOp}{x y:En}{K:U->Option ρ}{r:ρ}(h:S.bin cst c op x y K=some r):∃u,(S.fg R).bin c op (x.fg R) (y.fg R)=some (U.fg u)/\K u=some r:=by
 unfold St.bin at h;split at h
 .split at h
  .exact AV0 h
  .cases h
 .split at h
  .exact AFV h
  .cases h
 .split at h
  .obtain⟨b,j,q⟩:=AWs (R:=R) h;obtain⟨u,B,E⟩:=AFV q;rename_i l;exact⟨u,by show (match (S.fg R).VY (AT.fg R l) with|some b=>pC op b|none=>none)=_;rw[j];exact B,E⟩
  .cases h
 .split at h
  .split at h
   .rename_i G H j q;split at h
    .rename_i b I;obtain⟨u,B,E⟩:=AFV h;refine⟨u,?_,E⟩;simp only[En.fg,Lv.St.bin,zY j,zY q,ALq I,B]
    .cases h
   .cases h
  .cases h
theorem AZI{op:UnOp}{x:U}{K:U->Option ρ}{r:ρ}(h:unU op x K=some r):∃u,unT op x.fg=some (U.fg u)/\K u=some r:=by
 unfold unU at h;split at h
 .cases op<;>simp only at h<;>first|cases h;done|exact⟨_,rfl,h⟩
 .cases op<;>simp only at h<;>first|cases h;done|(split at h;cases h;exact⟨_,rfl,h⟩)
 .cases h
theorem ATC(k:IntKind)(n:Int):(mkInt k n).fg=.int k (k.wrap n):=by cases k<;>simp only[mkInt,AVY]<;>rfl
theorem ANW:∀(n:Nat) (x:tD n),Uh (.st n)=true->(AZd n x).all flat=true|0,x,_=>rfl|1,x,h=>absurd h (by decide)|2,x,_=>rfl|3,x,_=>rfl|4,x,_=>rfl|5,x,_=>rfl|6,x,h=>absurd h (by decide)|7,x,h=>absurd h (by decide)|8,x,h=>absurd h (by decide)|9,x,_=>rfl|10,x,_=>rfl|11,x,h=>absurd h (by decide)|12,x,h=>absurd h (by decide)|13,x,h=>absurd h (by decide)|14,x,h=>absurd h (by decide)|15,x,_=>rfl|16,x,h=>absurd h (by decide)|17,x,h=>absurd h (by decide)|_+18,x,_=>rfl
theorem ANV{c:C}(h:Uh c=true)(x:c.D):(enc c x).all flat=true:=by
 cases c with
 |l c=>cases h
 |m=>cases h
 |st n=>exact ANW n x h|un n=>cases h
 |_=>rfl
theorem I8{c:C}(h:Uh c=true)(xs:List c.D):Gt (xs.map (enc c))=true:=by
 grind[Gt,List.all_map,List.all_eq_true,ANV]
theorem AXK{c:C}{fl:Bool}{S S':St}{l:AT}{ys:List c.D}(h:PO c fl S l=some (S',ys)):Lv.PO c.size fl (S.fg R) (AT.fg R l)=some (S'.fg R,ys.map (enc c))/\BU S S':=by
 unfold PO at h;split at h
 .rename_i s;split at h
  .rename_i xs j;cases h;have y:C.u=c:=by
    simp only[Rw.as]at j;split at j
    .rename_i y;exact y
    .cases j
   subst y;have:=eA j;simp only[AT.fg,U.fg,Lv.PO,C.size,if_true,<-this,Rw.fg];exact⟨rfl,BU.refl _⟩
  .cases h
 .cases h;exact⟨rfl,BU.refl _⟩
 .rename_i s J xs;split at h
  .rename_i G;split at h
   .rename_i I j;cases h;have y:J=c:=by
     simp only[Rw.as]at j;split at j
     .rename_i y;exact y
     .cases j
    subst y;have:=eA j;simp only[AT.fg,Lv.PO,I8 G,and_self,if_true,<-this,Rw.fg];exact⟨trivial,BU.refl _⟩
   .cases h
  .cases h
 .rename_i q sub;simp only[AT.fg,Lv.PO,Jl];split at h
  .rename_i x j;rw[j];split at h
   .rename_i w H;split at h
    .rename_i I E;have L:eOf c.size x.fg=true:=by
      cases x<;>simp[content]at H<;>subst H<;>simp only[U.fg,eOf];simp only[Rw.sub,Rw.as]at E;split at E
      .rename_i y;subst y;simp
      .cases E
     have B:=eA E;rw[AVO]at B;simp only[An,AT.fg,VA H,L,if_true,B];cases fl with
     |true=>
      simp only[if_true]at h ⊢;split at h
      .rename_i G;cases h;rw[AW (I8 G _)];exact⟨rfl,BU.refl _⟩
      .cases h
     |false=>
      simp only[BM,if_false]at h ⊢;cases h;rw[Vd];exact⟨rfl,BU.out _ _⟩
    .cases h
   .cases h
  .cases h
 .cases h
theorem ARH{e:Option (Nat×Nat)}{x:Option ρ}{r:ρ}(h:gdo e x=some r):(∀a b,e=some (a,b)->a=b)/\x=some r:=by
 cases e with
 |none=>exact⟨by intros;contradiction,h⟩
 |some p=>
  obtain⟨a,b⟩:=p;obtain⟨j,q⟩:=P0 h
  grind
theorem AAE{c:C}{S S':St}{l:AT}{b:U}{n:Nat}{e:Option (Nat×Nat)}(h:Rf c S l=some (S',b,n,e))(Q:∀a b,e=some (a,b)->a=b):Lv.Rf c.size (S.fg R) (AT.fg R l)=some (S'.fg R,b.fg,n)/\BU S S':=by
 unfold Rf at h;split at h
 .cases h;exact⟨rfl,BU.refl _⟩
 .rename_i q sub;simp only[AT.fg,Lv.Rf,Jl];split at h
  .rename_i x X;rw[X];split at h
   .rename_i w H;split at h
    .rename_i ys y;cases h;have E:eOf c.size x.fg=true:=by
      cases x<;>simp[content]at H<;>subst H<;>simp only[U.fg,eOf];simp only[Rw.as]at y;split at y
      .rename_i B;subst B;simp
      .cases y
     have I:=eA y;have G:toEnd sub (ys.map (enc c)).length=true:=by
      cases sub with
      |none=>rfl|some p=>
       obtain⟨lo,m⟩:=p;have:=Q _ _ rfl;simp[toEnd,this]
     simp only[An,AT.fg,VA H,I];rw[AW ⟨E,G⟩,Vd,Yf];refine⟨?_,BU.out _ _⟩;rw[zW,<-aa,Af]
    .cases h
   .cases h
  .cases h
 .rename_i q i j Y xs;split at h
  .rename_i B;subst B;split at h
   .rename_i S1 J;cases h;obtain⟨L,O⟩:=AMV (R:=R) J;simp only[AT.fg,Lv.Rf,if_true,L,U.fg,Af];exact⟨trivial,O⟩
   .cases h
  .cases h
 .cases h
theorem AJA{c:C}{b u:U}{ys:List c.D}(h:AVr c b ys=some u):u.fg=AM6 c.size b.fg (ys.map (enc c)):=by
 unfold AVr at h;split at h
 .grind[U.fg,AM6]
 .rename_i j;cases h;cases b<;>simp only[U.fg,AM6];exact(j _ _ rfl).elim
end
end Y
end Lv
namespace Lv
open Go (IntKind BinOp UnOp)
theorem OF{α β:Type}(f:α->β):∀(cs ls:List α) (o:Nat),D1 (ls.map f) o (cs.map f)=(D1 ls o cs).map f
 | [],ls,o=>by cases ls<;>rfl
 |c::cs,ls,o=>by
  simp only[AJ,D1];rw[<-Hc,OF f cs]
theorem nw{α:Type}(t:α):∀(cs ls:List α) (o b:Nat),o<=b->b<o+cs.length->D1 (ls.set b t) o cs=D1 ls o cs
 | [],ls,o,b,q,j=>by simp at j;omega|c::cs,ls,o,b,q,j=>by
  simp only[D1];by_cases h:b=o
  .subst h;rw[List.set_set]
  .rw[List.set_comm _ _ h];exact nw t cs _ _ _ (by omega) (by simp at j;omega)
namespace Y
section
variable{R:List GF}{ρ:Type}
theorem sV(r:CH)(i:Nat):∀(j:Nat) (us:List U),(Je r i j us).map (AT.fg R)=Lv.Je r i j (us.map U.fg)|_,[]=>rfl|j,u::us=>by simp only[Je,AJ,Lv.Je,sW,sV r i (j+1) us]
theorem uG{c:C}{xs:List c.D}{i:Int}{x:c.D}(h:at? xs i=some x):(xs.map (enc c))[i.toNat]?=some (enc c x):=AX2 (enc c) h
theorem Q6{S:St}{n:Nat}{l:AT}{K:List AT->Option ρ}{r:ρ}(h:S.load n l K=some r):∃ls,(S.fg R).load n (AT.fg R l)=some (ls.map (AT.fg R))/\K ls=some r:=by
 unfold St.load at h;split at h
 .grind[AT.fg,Lv.St.load,Pw,List.length_map,AI8,List.map_take,List.map_drop]
 .rename_i q i j;simp only[AT.fg,Lv.St.load,Jl];split at h
  .rename_i c xs G;rw[G];obtain⟨x,B,h⟩:=V8 h;split at h
   .rename_i y;refine⟨_,?_,h⟩;have E:=uG B;simp only[An,AT.fg,U.fg,E,FV,Af,y,if_true,sV,Cn,CV]
   .cases h
  .cases h
 .rename_i s cs;split at h
  .rename_i y;refine⟨_,?_,h⟩;simp only[AT.fg,Lv.St.load,Af,y,if_true,AD];rw[<-Cn,D9,D9];congr 1;funext u;exact(sW _ _).symm
  .cases h
 .cases h
theorem Tj:∀ls:List AT,Lv.H4 (ls.map (AT.fg R))=H4 ls
 | []=>rfl|l::ls=>by
  have j:=Tj ls;cases l with
  |t x=>cases x<;>first|rfl|exact j
  |und=>rfl|_=>exact j
theorem nG(b o n:Nat)(l:AT):Lv.ID b o n (AT.fg R l)=ID b o n l:=by
 grind[Lv.ID,ID,Kx,Qd,Nat.ble,Nat.le_of_ble_eq_true,decide_eq_false_iff_not,Nat.ble_eq_true_of_le,Nat.blt]
def AE1:List T->List (Nat×Nat)->List T|row,[]=>row|row,(_,b)::hs=>AE1 (row.set b .top) hs
theorem AE3:∀(j:List (Nat×Nat)) (row:List T),(AE1 row j).length=row.length| [],row=>rfl|(a,b)::j,row=>by simp only[AE1,AE3 j,List.length_set]
theorem Zu(i:Nat):∀(j:List (Nat×Nat)) (X:List (List T)) (k:Nat),(∀p∈j,p.1=i)->(M1 X j)[k]?=if k=i then (X[i]?).map (fun row=>AE1 row j) else X[k]?
 | [],X,k,h=>by
  grind[M1,AE1]
 |(a,b)::j,X,k,h=>by
  have q:a=i:=h (a,b) (by simp);subst q;simp only[M1];rw[Zu a j _ k (fun p y=>h p (by simp[y]))];simp only[YT,if_true];split
  .cases X[a]? <;> rfl
  .rfl
theorem cC(j:Nat)(ts:List T):∀(q:List (Nat×Nat)) (row:List T),(∀p∈q,j<=p.2/\p.2<j+ts.length)->D1 (AE1 row q) j ts=D1 row j ts
 | [],row,h=>rfl|(a,b)::q,row,h=>by
  simp only[AE1];rw[cC j ts q _ (fun p y=>h p (by simp[y]))];have:=h (a,b) (by simp);exact nw _ _ _ _ _ this.1 this.2
theorem mL{i j n:Nat}:∀{q:List (Nat×Nat)},O5 i j n q->(∀p∈q,p.1=i)/\(∀p∈q,j<=p.2/\p.2<j+n)
 | [],_=>⟨by simp,by simp⟩|(a,b)::q,h=>by
  obtain⟨B,E,y⟩:=h;obtain⟨G,H⟩:=mL y
  grind
theorem AVS{n:Nat}{ls:List AT}{S S':St}{ls':List AT}(h:Yh n S ls=some (S',ls')):Lv.Yh n (S.fg R) (ls.map (AT.fg R))=some (S'.fg R,ls'.map (AT.fg R))/\BU S S':=by
 grind[Yh,Lv.Yh,Nat.blt_eq,QO,BU.refl]
theorem APf{S:St}{n:Nat}{p:AT}{cs:List AT}{K:St->Option ρ}{r:ρ}(h:S.RV n p cs K=some r) :
 ∃S',(S.fg R).RV n (AT.fg R p) (cs.map (AT.fg R))=some (S'.fg R)/\BU S S'/\K S'=some r:=by
 unfold St.RV at h;split at h
 .rename_i id o;split at h
  .rename_i S1 E X;obtain⟨Y,J⟩:=AVS (R:=R) X;split at h
   .cases h
   .rename_i ht;dsimp only at h;split at h
    .rename_i ls hl;split at h
     .rename_i y;refine⟨_,?_,(J.trans (BU.kill _ _)).trans (BU.OM _ _ _),h⟩;simp only[AT.fg,Lv.St.RV,Y,Tj,ht,BM,if_false,Af];rw[Kq (nG id o E.length),Pw,hl];simp only[An,Af,y,if_true];rw[UF,MN (nG id o E.length),OF]
     .cases h
    .cases h
  .cases h
 .rename_i q i j;split at h
  .rename_i S1 us X;obtain⟨Y,J⟩:=Lr (R:=R) X;simp only[AT.fg,Lv.St.RV,Y,Jl];split at h
   .rename_i c xs hx;rw[hx];obtain⟨x,L,h⟩:=V8 h;split at h
    .rename_i y;split at h
     .rename_i x' B;refine⟨_,?_,(J.trans (BU.Bk _ _ _)).trans (BU.kill _ _),h⟩;have Z:=uG L;simp only[An,AT.fg,U.fg,Z,FV,Af,y,if_true,AD];rw[<-Kq (RE q),Gp];congr 2;simp only[AT.fg,U.fg];rw[Hc,Ir B,OF]
     .cases h
    .cases h
   .rename_i c xs I hx;rw[hx];obtain⟨x,L,h⟩:=V8 h;split at h
    .rename_i y;split at h
     .rename_i x' B;obtain⟨hh,h⟩:=@P0 _ _ (db i.toNat j us.length I) _ _ h;obtain⟨hr,G⟩:=mL hh;refine⟨_,?_,(J.trans (BU.Bk _ _ _)).trans (BU.kill _ _),h⟩;have Z:=uG L;have O:=Zu i.toNat I (xs.map (enc c)) i.toNat hr;rw[AW rfl,Z]at O;simp only[An]at O;simp only[An,AT.fg,O,AE3,OY];have hl2:j+(us.map U.fg).length<=c.size:=by rw[Af,<-Yx c x];exact y
      rw[AW hl2,<-Kq (RE q),Gp];congr 3;simp only[AT.fg,U.fg];have h7:D1 (AE1 (enc c x) I) j (us.map U.fg)=enc c x':=by
       rw[cC _ _ _ _ (by rw[Af];exact G),Ir B,FV,OF]
      rw[h7];congr 1;congr 1;apply Fc;intro k;have hlt:i.toNat<xs.length:=(PV L).2.2.1;have H:i.toNat<(M1 (xs.map (enc c)) I).length:=(AO.1 O).1;rw[D8,A5,D8];by_cases Q:i.toNat=k
      .subst Q;simp only[if_true,hlt,H,An]
      .rw[AR Q,AR Q,Zu i.toNat I _ k hr,AR (fun h=>Q h.symm),A5]
     .cases h
    .cases h
   .cases h
  .cases h
 .cases h
def erP(R:List GF)(p:Nat×Nat×YO):Nat×Nat×Opd:=(p.1,p.2.1,p.2.2.er R)
theorem pf{S:St}:∀{ps:List (Nat×Nat×YO)} {ls ls':List AT},MW S ls ps=some ls'->Lv.MW (S.fg R) (ls.map (AT.fg R)) (ps.map (erP R))=some (ls'.map (AT.fg R))
 | [],ls,ls',h=>by cases h;rfl
 |(o,n,x)::ps,ls,ls',h=>by
  simp only[MW]at h;split at h
  .rename_i e q;split at h
   .rename_i j;have:=pf (ps:=ps) h;simp only[AJ,erP,Lv.MW,LO q,En.fg,Af,Tj];rw[AW j,OF];exact this
   .cases h
  .cases h
def erQ(R:List GF)(p:Nat×YO):Nat×Opd:=(p.1,p.2.er R)
theorem AQC{c:C}{n:Nat}:∀{ps:List (Nat×YO)} {S S':St} {xs j:List c.D},bsK c n S xs ps=some (S',j) ->
 Lv.bsK c.size n (S.fg R) (xs.map (enc c)) (ps.map (erQ R))=some (S'.fg R,j.map (enc c))/\BU S S'
 | [],S,S',xs,j,h=>by cases h;exact⟨rfl,BU.refl _⟩
 |(i,x)::ps,S,S',xs,j,h=>by
  simp only[bsK]at h;split at h
  .rename_i e J;split at h
   .rename_i I;split at h
    .rename_i S1 us q;obtain⟨B,E⟩:=Lr (R:=R) q;split at h
     .rename_i y L;obtain⟨G,H⟩:=AQC (ps:=ps) h;simp only[AJ,erQ,Lv.bsK,LO J,En.fg,Af];rw[AW I,B];dsimp only;rw[<-Ir L,<-Hc];exact⟨G,E.trans H⟩
     .cases h
    .cases h
   .cases h
  .cases h
theorem AQD{c:C}{n:Nat}{z:List T}:∀{ps:List (Nat×YO)} {S S':St} {ys:List c.D} (pre:List (List T)),bsL c n S ps=some (S',ys)->ADl pre.length n ps=true->pre.length<=n ->
 Lv.bsK c.size n (S.fg R) (pre++List.replicate (n-pre.length) z) (ps.map (erQ R))=some (S'.fg R,pre++ys.map (enc c))/\BU S S'
 | [],S,S',ys,pre,h,j,Q=>by
  cases h;simp only[ADl,beq_iff_eq]at j;simp only[BX,Lv.bsK,j,EB,List.replicate_zero];exact⟨trivial,BU.refl _⟩
 |(i,x)::ps,S,S',ys,pre,h,j,Q=>by
  simp only[ADl,AF,beq_iff_eq]at j;obtain⟨rfl,j⟩:=j;simp only[bsL]at h;split at h
  .rename_i e O;split at h
   .rename_i L;split at h
    .rename_i S1 us B;obtain⟨E,G⟩:=Lr (R:=R) B;split at h
     .rename_i y S2 Z Y J;cases h;have q:(pre++[enc c y]).length=pre.length+1:=by simp
      obtain⟨H,I⟩:=AQD (z:=z) (ps:=ps) (pre++[enc c y]) J (by rw[q];exact j) (by rw[q];omega);simp only[AJ,erQ,Lv.bsK,LO O,En.fg,Af];rw[AW L,E];dsimp only;rw[<-Ir Y];have X:(pre++List.replicate (n-pre.length) z).set pre.length (enc c y)=(pre++[enc c y])++List.replicate (n-(pre++[enc c y]).length) z:=by
       rw[List.set_append_right _ _ (Ad _),EB,q];have:n-pre.length=(n-(pre.length+1))+1:=by omega
       rw[this,List.replicate_succ];simp
      rw[X];refine⟨?_,G.trans I⟩;simpa[erQ] using H
     .cases h
    .cases h
   .cases h
  .cases h
theorem N8{S:St}{len:Nat}{lo hi:Option YO}{K:Nat->Nat->Option ρ}{r:ρ}(h:range S len lo hi K=some r) :
 ∃a b,(S.fg R).range len (lo.map (YO.er R)) (hi.map (YO.er R))=some (a,b)/\K a b=some r/\∀{α:Type} (xs:List α),xs.length=len->part lo hi xs a b=(xs.drop a).take (b-a):=by
 unfold range at h
 grind[part,Lv.St.range,Lv.St.ATD,P0,TH,List.take_of_length_le]
theorem Xl:∀(q:List (Nat×Nat)) (X:List (List T)),(M1 X q).length=X.length| [],_=>rfl|(i,j)::q,X=>by rw[M1,Xl q];simp[JE]
theorem UN{S:St}{c:C}{l:AT}(h:S.wide c l=true)(y:(∃s j xs,l=.vw s j xs)\/(∃q sub,l=.al q sub)\/l=.t .nil):(S.fg R).wide c.size (AT.fg R l)=true:=by
 rcases y with ⟨s,j,xs,rfl⟩|⟨q,sub,rfl⟩|rfl
 .simp only[St.wide,decide_eq_true_eq]at h;subst h;simp[AT.fg,Lv.St.wide]
 .simp only[St.wide]at h;simp only[AT.fg,Lv.St.wide,Jl];split at h
  .rename_i x B;rw[B];simp only[An,AT.fg];cases x<;>simp only[U.fg,eOf];simp only[decide_eq_true_eq]at h;subst h;simp
  .grind[AT.fg,eOf]
  .cases h
 .rfl
theorem ANy{off:Nat}{p q:AT}(h:Mk off p=some q):Lv.Mk off (AT.fg R p)=some (AT.fg R q):=by
 cases p<;>simp only[Mk]at h<;>first
  |cases h;done
  |(cases h;simp only[AT.fg,Lv.Mk,CV])
theorem ASz(p:AT):Lv.St.Rl (AT.fg R p)=Rl p:=by cases p<;>rfl
theorem AYB{l:AT}{c:Cap}(h:l.AX9=some c):c.fg=AT.fg R l/\(AT.fg R l).plain=true:=by
 unfold AT.AX9 at h;split at h<;>first|cases h;done|(cases h;exact⟨rfl,rfl⟩)
theorem pb:∀{es:List En} {cs:List Cap},uC es=some cs->((es.map (En.fg R)).all fun e=>Lv.ADm e.sh&&e.cs.length==1&&e.cs.all Lv.AT.plain)=true/\(es.map (En.fg R)).flatMap Lv.Ent.cs=cs.map Cap.fg
 | [],cs,h=>by cases h;exact⟨rfl,rfl⟩
 |e::es,cs,h=>by
  unfold uC at h;split at h
  .rename_i j;cases j
  .rename_i l y j;cases j;split at h
   .rename_i c q B E;cases h;obtain⟨G,H⟩:=pb E;obtain⟨I,J⟩:=AYB (R:=R) B;constructor
    .rw[AJ,List.all_cons,G];simp[En.fg,Lv.ADm,J]
    .simp only[AJ,List.flatMap_cons,H,En.fg,BX,List.singleton_append,I]
   .cases h
  .cases h
end
end Y
end Lv
namespace Lv
open Go (IntKind BinOp UnOp)
namespace Y
section
variable{R:List GF}{ρ:Type}
def zsC(c:C):List T:=match AFC c with|some z=>enc c z|none=>[]
theorem AI6{c:C}{z:c.D}(h:AFC c=some z):zsC c=enc c z:=by unfold zsC;rw[h]
def YOp.er:YOp R->XOp|.mv d x=>.mv d (x.er R)|.as d x=>.as d (x.er R)|.pick d c a b=>.pick d (c.er R) (a.er R) (b.er R)|.alloc d zs=>.alloc d (zs.map U.fg)|.box d x=>.box d (x.er R)|.build d zs ps=>.build d (zs.map U.fg) (ps.map (erP R))|.CF d n c ps=>.CF d n (zsC c) (ps.map (erQ R))|.ld d n x=>.ld d n (x.er R)|.st n x v=>.st n (x.er R) (v.er R)|.chk d x=>.chk d (x.er R)|.bin d c op x y=>.bin d c op (x.er R) (y.er R)|.un d op x=>.un d op (x.er R)|.cvI d k x=>.cvI d k (x.er R)|.MY d x=>.MY d (x.er R)|.Ox d x=>.Ox d (x.er R)|.NC d n caps=>.NC d (xr R n) (caps.map (YO.er R))|.Ry d c n=>.Ry d (zsC c) (n.er R) (n.er R)|.sub d c x lo hi=>.sub d c.size (x.er R) (lo.map (YO.er R)) (hi.map (YO.er R))|.Vq d x lo hi=>.Vq d (x.er R) (lo.map (YO.er R)) (hi.map (YO.er R))|.fa d off x=>.fa d off (x.er R)|.fld d off n x=>.fld d off n (x.er R)|.ia d c x i=>.ia d c.size (x.er R) (i.er R)|.ix d x i=>.ix d (x.er R) (i.er R)|.ext d x i=>.ext d (x.er R) i|.call d g _ _ args=>.call d g.x (args.map (YO.er R))|.D2 d x ms args=>.D2 d (x.er R) ms (args.map (YO.er R))|.len d x=>.len d (x.er R)|.lens d x=>.lens d (x.er R)|.app d c fl x y=>.app d c.size fl (x.er R) (y.er R)|.R7 d c x n=>.R7 d (zsC c) (x.er R) (n.er R)|.cpy d c x y=>.cpy d c.size (x.er R) (y.er R)|.mm d m x y=>.mm d m (x.er R) (y.er R)|.mmk d=>.mmk d|.UR d x k=>.UR d (x.er R) (k.er R)|.TG x k v=>.TG (x.er R) (k.er R) (v.er R)|.US d x=>.US d (x.er R)|.bad d=>.bad d|.drop ds=>.drop ds|.VZ ns=>.VZ (ns.map fun p=>(p.1,p.2.size))
def Plain(o:YOp R)(S:St)(K:St->Option ρ)(r:ρ):Prop:=∃S',Lv.ev o.er (S.fg R)=some (S'.fg R)/\BU S S'/\K S'=some r
theorem Cd{o:YOp R}{S S1:St}{d:Nat}{sh:Sh}{cs:List AT}{K:St->Option ρ}{r:ρ}(h:HZ S1 d sh cs K=some r)(E:BU S S1)(B:Lv.ev o.er (S.fg R)=(S1.fg R).EL d ⟨sh,cs.map (AT.fg R)⟩):Plain o S K r:=by
 obtain⟨S',j,q,y⟩:=dm (R:=R) h;exact⟨S',B.trans j,E.trans q,y⟩
variable{S:St}{K:St->Option ρ}{r:ρ}
theorem AMS{d:Nat}{x:YO}(h:ev (.mv d x:YOp R) S K=some r):Plain (.mv d x:YOp R) S K r:=by
 simp only[ev]at h;split at h
 .rename_i e j;exact Cd h (BU.refl _) (by simp only[YOp.er,Lv.ev,LO j,En.fg])
 .cases h
theorem ATP{d:Nat}{x:YO}(h:ev (.as d x:YOp R) S K=some r):Plain (.as d x:YOp R) S K r:=by
 simp only[ev]at h;split at h
 .rename_i e B;split at h
  .rename_i S1 cs j;obtain⟨q,y⟩:=QO (R:=R) j;exact Cd h y (by simp only[YOp.er,Lv.ev,LO B,En.fg,q])
  .cases h
 .cases h
theorem yf{d:Nat}{c a b:YO}(h:ev (.pick d c a b:YOp R) S K=some r):Plain (.pick d c a b:YOp R) S K r:=by
 simp only[ev]at h;split at h
 .rename_i t ea eb q y B;rcases AJE h with ⟨rfl,j⟩|⟨rfl,j⟩
  .exact Cd j (BU.refl _) (by simp only[YOp.er,Lv.ev,Ol q,LO y,LO B,U.fg,En.fg,if_true])
  .exact Cd j (BU.refl _) (by simp only[YOp.er,Lv.ev,Ol q,LO y,LO B,U.fg,En.fg,BM,if_false])
 .cases h
theorem nE{d:Nat}{j:List U}(h:ev (.alloc d j:YOp R) S K=some r):Plain (.alloc d j:YOp R) S K r:=by
 simp only[ev]at h;obtain⟨S',q,y,B⟩:=mu (R:=R) h;refine⟨S',?_,y,B⟩;rw[<-q];simp only[YOp.er,Lv.ev,Lv.P9,D9];rfl
theorem AIM{d:Nat}{x:YO}(h:ev (.box d x:YOp R) S K=some r):Plain (.box d x:YOp R) S K r:=by
 simp only[ev]at h;split at h
 .rename_i e G;split at h
  .rename_i S1 cs j;obtain⟨q,y⟩:=AV6 (R:=R) j;split at h
   .cases h
   .rename_i I;obtain⟨S',H,B,E⟩:=mu (R:=R) h;refine⟨S',?_,y.trans B,E⟩;simp only[YOp.er,Lv.ev,LO G,En.fg,q,Tj,Af]
    grind[MN,Lv.E8,Lv.Fl,Xz,Xy,Lv.P9]
  .cases h
 .cases h
theorem nF{d:Nat}{j:List U}{ps:List (Nat×Nat×YO)}(h:ev (.build d j ps:YOp R) S K=some r):Plain (.build d j ps:YOp R) S K r:=by
 simp only[ev]at h;split at h
 .rename_i ls q;have:=pf (R:=R) q;rw[D9]at this;refine Cd h (BU.refl _) ?_;simp only[YOp.er,Lv.ev,D9];rw[show (Lv.AT.t∘U.fg)=(AT.fg R∘AT.t) from rfl,this]
 .cases h
theorem aK{d n:Nat}{c:C}{ps:List (Nat×YO)}(h:ev (.CF d n c ps:YOp R) S K=some r):Plain (.CF d n c ps:YOp R) S K r:=by
 simp only[ev]at h;split at h
 .rename_i z E;split at h
  .rename_i y;split at h
   .rename_i S1 xs j;have q:Lv.bsK c.size n (S.fg R) (rowsOf n (enc c z)) (ps.map (erQ R))=some (S1.fg R,xs.map (enc c))/\BU S S1:=by
     split at j
     .rename_i B;have:=AQD (R:=R) (z:=enc c z) [] j B (Nat.zero_le _);simpa[rowsOf] using this
     .have:=AQC (R:=R) j;rw[G0]at this;exact this
    refine Cd h q.2 ?_;simp only[YOp.er,Lv.ev,AI6 E,OY];rw[AW y,q.1];rfl
   .cases h
  .cases h
 .cases h
theorem ATT{d:Nat}{n:Option Nat}{x:YO}(h:ev (.ld d n x:YOp R) S K=some r):Plain (.ld d n x:YOp R) S K r:=by
 simp only[ev]at h;split at h
 .rename_i p q;obtain⟨ls,j,h⟩:=Q6 (R:=R) h
  grind[Cd,BU.refl,YOp.er,Lv.ev,FG]
 .cases h
theorem ATU{n:Nat}{x v:YO}(h:ev (.st n x v:YOp R) S K=some r):Plain (.st n x v:YOp R) S K r:=by
 simp only[ev]at h;split at h
 .rename_i p e G E;split at h
  .rename_i B;obtain⟨S',j,q,y⟩:=APf (R:=R) h;refine⟨S',?_,q,y⟩;simp only[YOp.er,Lv.ev,FG G,LO E,En.fg,Af];rw[AW B,j]
  .cases h
 .cases h
theorem AIN{d:Nat}{x:YO}(h:ev (.chk d x:YOp R) S K=some r):Plain (.chk d x:YOp R) S K r:=by
 simp only[ev]at h
 grind[Cd,BU.refl,YOp.er,Lv.ev,FG,ASz]
theorem AIL{d:Nat}{c:Cls}{op:BinOp}{x y:YO}(h:ev (.bin d c op x y:YOp R) S K=some r):Plain (.bin d c op x y:YOp R) S K r:=by
 simp only[ev]at h;split at h
 .rename_i ex ey j q;obtain⟨u,B,h⟩:=AX5 (R:=R) h;exact Cd h (BU.refl _) (by simp only[YOp.er,Lv.ev,LO j,LO q,B];rfl)
 .cases h
theorem ATV{d:Nat}{op:UnOp}{x:YO}(h:ev (.un d op x:YOp R) S K=some r):Plain (.un d op x:YOp R) S K r:=by
 simp only[ev]at h;split at h
 .rename_i a j;obtain⟨u,q,h⟩:=AZI h;exact Cd h (BU.refl _) (by simp only[YOp.er,Lv.ev,Ol j,q];rfl)
 .cases h
theorem AIP{d:Nat}{k:IntKind}{x:YO}(h:ev (.cvI d k x:YOp R) S K=some r):Plain (.cvI d k x:YOp R) S K r:=by
 simp only[ev]at h
 grind[Cd,BU.refl,YOp.er,Lv.ev,TH,AT.fg,ATC]
theorem yX{d:Nat}{x:YO}(h:ev (.MY d x:YOp R) S K=some r):Plain (.MY d x:YOp R) S K r:=by
 simp only[ev]at h;split at h
 .rename_i s j;exact Cd h (BU.refl _) (by simp only[YOp.er,Lv.ev,Ol j,U.fg];rfl)
 .cases h
theorem yW{d:Nat}{x:YO}(h:ev (.Ox d x:YOp R) S K=some r):Plain (.Ox d x:YOp R) S K r:=by
 simp only[ev]at h;split at h
 .rename_i l y;split at h
  .rename_i w G;split at h
   .rename_i j E;have q:=Pu (R:=R) G;rw[eA E]at q;refine Cd h (BU.refl _) ?_;have B:bytesOf (j.map (enc .u))=some j:=AAH j;simp only[YOp.er,Lv.ev,FG y,q,B];rfl
   .cases h
  .cases h
 .cases h
theorem ya{d n:Nat}{caps:List YO}(h:ev (.NC d n caps:YOp R) S K=some r):Plain (.NC d n caps:YOp R) S K r:=by
 simp only[ev]at h;split at h
 .rename_i es B;split at h
  .rename_i cs y;obtain⟨j,q⟩:=pb (R:=R) y;refine Cd h (BU.refl _) ?_;simp only[YOp.er,Lv.ev,aS B];rw[AW j,q];rfl
  .cases h
 .cases h
theorem yb{d:Nat}{c:C}{n:YO}(h:ev (.Ry d c n:YOp R) S K=some r):Plain (.Ry d c n:YOp R) S K r:=by
 simp only[ev]at h;split at h
 .grind[P0,Cd,BU.refl,YOp.er,Lv.ev,TH,AI6,OY,rowsOf,AT.fg,U.fg,List.map_replicate]
 .cases h
theorem yg{d:Nat}{x:YO}{lo hi:Option YO}(h:ev (.Vq d x lo hi:YOp R) S K=some r):Plain (.Vq d x lo hi:YOp R) S K r:=by
 simp only[ev]at h;split at h
 .rename_i s y;obtain⟨a,b,j,h,q⟩:=N8 (R:=R) h;rw[q s rfl]at h;exact Cd h (BU.refl _) (by simp only[YOp.er,Lv.ev,Ol y,U.fg,j];rfl)
 .cases h
theorem AQ6{q:CH}{sub:Option (Nat×Nat)}{w:Rw}{c:C}{xs:List c.D}(h:S.elems (.al q sub)=some w)(j:w.as c=some xs):(S.fg R).elems (.al q sub)=some (xs.map (enc c)):=by
 have:=Pu (R:=R) h;rw[eA j]at this;exact this
theorem AIU{d:Nat}{c:C}{x:YO}{lo hi:Option YO}(h:ev (.sub d c x lo hi:YOp R) S K=some r):Plain (.sub d c x lo hi:YOp R) S K r:=by
 simp only[ev]at h;split at h
 .rename_i l G;split at h
  .rename_i H;split at h
   .rename_i q sub;have j:=UN (R:=R) H (.inr (.inl ⟨_,_,rfl⟩));split at h
    .rename_i w I;split at h
     .rename_i xs J;obtain⟨a,b,B,h,_⟩:=N8 (R:=R) h;have E:=AQ6 (R:=R) I J;have y:=FG (R:=R) G;simp only[AT.fg]at j y;refine Cd h (BU.refl _) ?_;simp only[YOp.er,Lv.ev,y,j,if_true,E,Af,B];cases sub with|none=>rfl|some p=>rfl
     .cases h
    .cases h
   .rename_i s L xs;have j:=UN (R:=R) H (.inl ⟨_,_,_,rfl⟩);obtain⟨a,b,B,h,E⟩:=N8 (R:=R) h;rw[E xs rfl]at h;have y:=FG (R:=R) G;simp only[AT.fg]at j y;refine Cd h (BU.refl _) ?_;simp only[YOp.er,Lv.ev,y,j,if_true,Lv.St.elems,Af,B,AJ,BX,AT.fg,Cn,CV]
   .obtain⟨a,b,B,h,_⟩:=N8 (R:=R) h;have j:=UN (R:=R) H (.inr (.inr rfl));have y:=FG (R:=R) G;simp only[AT.fg,U.fg]at j y;refine Cd h (BU.refl _) ?_;simp only[YOp.er,Lv.ev,y,j,if_true,Lv.St.elems,AP,B,AJ,BX,AT.fg,U.fg]
   .cases h
  .cases h
 .cases h
theorem ATQ{d off:Nat}{x:YO}(h:ev (.fa d off x:YOp R) S K=some r):Plain (.fa d off x:YOp R) S K r:=by
 simp only[ev]at h;split at h
 .rename_i p j;split at h
  .rename_i q y;exact Cd h (BU.refl _) (by simp only[YOp.er,Lv.ev,FG j,ANy y];rfl)
  .cases h
 .cases h
theorem AIR{d off:Nat}{n:Option Nat}{x:YO}(h:ev (.fld d off n x:YOp R) S K=some r):Plain (.fld d off n x:YOp R) S K r:=by
 simp only[ev]at h;split at h
 .rename_i cs q;split at h
  .rename_i j;refine Cd h (BU.refl _) ?_;simp only[YOp.er,Lv.ev,LO q,En.fg,Af,j,if_true,Cn,CV]
  .cases h
 .cases h
theorem ATR{d:Nat}{c:C}{x i:YO}(h:ev (.ia d c x i:YOp R) S K=some r):Plain (.ia d c x i:YOp R) S K r:=by
 simp only[ev]at h;split at h
 .rename_i l n I J;split at h
  .rename_i O;split at h
   .rename_i q sub;have j:=UN (R:=R) O (.inr (.inl ⟨_,_,rfl⟩));split at h
    .rename_i H xs X;obtain⟨y,G,h⟩:=V8 h;have L:=Pu (R:=R) X;have E:=FG (R:=R) I;simp only[AT.fg]at j E L;have B:=PV G;refine Cd h (BU.refl _) ?_;simp only[YOp.er,Lv.ev,E,TH J,L,Rw.fg,Af];rw[AW ⟨j,B.1,B.2.1⟩];cases sub with
     |none=>rfl|some p=>
      obtain⟨lo,m⟩:=p;simp only[AJ,BX,AT.fg];congr 5;have:=B.1;omega
    .split at h
     .split at h
      .rename_i H xs Z Y;obtain⟨y,G,h⟩:=V8 h;have E:=FG (R:=R) I;simp only[AT.fg]at j E;have B:=PV G;refine Cd h (BU.refl _) ?_;simp only[YOp.er,Lv.ev,E,TH J,Lv.St.elems,Jl,Y,An,AT.fg,Lv.content,Lv.Jh,Xl,Af];rw[AW ⟨j,B.1,B.2.1⟩];rfl
      .cases h
     .cases h
   .rename_i s H xs;have j:=UN (R:=R) O (.inl ⟨_,_,_,rfl⟩);obtain⟨y,G,h⟩:=V8 h;have E:=FG (R:=R) I;simp only[AT.fg]at j E;have B:=PV G;refine Cd h (BU.refl _) ?_;simp only[YOp.er,Lv.ev,E,TH J,Lv.St.elems,Af];rw[AW ⟨j,B.1,B.2.1⟩];have Q:(xs.map (enc H)).getD n.toNat []=(cells H y).map U.fg:=by
     rw[A7,uG G,KI,FV]
    rw[Q];rfl
   .cases h
  .cases h
 .cases h
theorem ATS{d:Nat}{x i:YO}(h:ev (.ix d x i:YOp R) S K=some r):Plain (.ix d x i:YOp R) S K r:=by
 simp only[ev]at h;split at h
 .rename_i s n B q;obtain⟨y,E,h⟩:=V8 h;have j:=PV E;refine Cd h (BU.refl _) ?_;simp only[YOp.er,Lv.ev,Ol B,U.fg,TH q];rw[AW ⟨j.1,j.2.1⟩];have:s.getD n.toNat 0=y:=by rw[A7,j.2.2.2.1,KI]
  rw[this];rfl
 .cases h
theorem AIQ{d:Nat}{x:YO}{i:Nat}(h:ev (.ext d x i:YOp R) S K=some r):Plain (.ext d x i:YOp R) S K r:=by
 simp only[ev]at h;split at h
 .rename_i s;split at h
  .rename_i ns cs v E;split at h
   .rename_i n G;split at h
    .rename_i B;split at h
     .rename_i S1 ls q;obtain⟨j,y⟩:=QO (R:=R) q;refine Cd h y ?_;simp only[YOp.er,YO.er,Lv.ev,Xa,E,An,Ent.fg,G,Af,B,if_true];rw[Cn,CV,uB]at j;rw[j]
     .cases h
    .cases h
   .cases h
  .cases h
 .cases h
theorem yY{d:Nat}{x:YO}(h:ev (.lens d x:YOp R) S K=some r):Plain (.lens d x:YOp R) S K r:=by
 simp only[ev]at h;split at h
 .rename_i s j;exact Cd h (BU.refl _) (by simp only[YOp.er,Lv.ev,Ol j,U.fg];rfl)
 .cases h
theorem AIS{d:Nat}{x:YO}(h:ev (.len d x:YOp R) S K=some r):Plain (.len d x:YOp R) S K r:=by
 simp only[ev]at h;split at h
 .rename_i l y;split at h
  .rename_i c xs q;have j:=Pu (R:=R) q;exact Cd h (BU.refl _) (by simp only[YOp.er,Lv.ev,FG y,j,Rw.fg,Af];rfl)
  .rename_i q;have j:=Pu (R:=R) q;exact Cd h (BU.refl _) (by simp only[YOp.er,Lv.ev,FG y,j,Rw.fg,AP];rfl)
  .cases h
 .cases h
theorem AIK{d:Nat}{c:C}{fl:Bool}{x y:YO}(h:ev (.app d c fl x y:YOp R) S K=some r):Plain (.app d c fl x y:YOp R) S K r:=by
 simp only[ev]at h;split at h
 .rename_i lx ly O Q;split at h
  .rename_i S1 ys j;obtain⟨q,B⟩:=AXK (R:=R) j;split at h
   .rename_i S2 b n e E;obtain⟨J,h⟩:=ARH h;obtain⟨G,H⟩:=AAE (R:=R) E J;obtain⟨I,h⟩:=P0 h;split at h
    .rename_i u L;refine Cd h (B.trans H) ?_;simp only[YOp.er,Lv.ev,FG O,FG Q,q,G,Af];rw[AW I,<-AJA L];rfl
    .cases h
   .cases h
  .cases h
 .cases h
theorem yV{d:Nat}{c:C}{x n:YO}(h:ev (.R7 d c x n:YOp R) S K=some r):Plain (.R7 d c x n:YOp R) S K r:=by
 simp only[ev]at h;split at h
 .rename_i lx k z J H L;obtain⟨j,h⟩:=P0 h;split at h
  .rename_i S2 b m e q;obtain⟨G,h⟩:=ARH h;obtain⟨y,B⟩:=AAE (R:=R) q G;obtain⟨E,h⟩:=P0 h;split at h
   .rename_i u I;refine Cd h B ?_;simp only[YOp.er,Lv.ev,FG J,TH H,AI6 L,OY];rw[AW j]
    try dsimp only
    rw[y]
    try dsimp only
    rw[AW E];have:=AJA I;rw[G0]at this;simp only[rowsOf,<-this,AJ,BX,AT.fg]
   .cases h
  .cases h
 .cases h
theorem AIO{d:Nat}{c:C}{x y:YO}(h:ev (.cpy d c x y:YOp R) S K=some r):Plain (.cpy d c x y:YOp R) S K r:=by
 simp only[ev]at h;split at h
 .rename_i q ly hx hy;split at h
  .rename_i O B w X J;split at h
   .rename_i ys xs hys j;split at h
    .rename_i E;obtain⟨hne,h⟩:=P0 h;have Y:O=c:=by
      simp only[Rw.as]at j;split at j
      .rename_i E;exact E
      .cases j
     subst Y;have Z:B=xs:=by simp only[Rw.as]at j;simpa using j
     subst Z;have Q:=Pu (R:=R) J;rw[eA hys]at Q;have h3:=FG (R:=R) hx;simp only[AT.fg]at h3;have H:(S.fg R).wide O.size (AT.fg R ly)=true:=by
      refine UN E.1 ?_;unfold St.elems at J;split at J
      .exact .inr (.inl ⟨_,_,rfl⟩)
      .exact .inl ⟨_,_,_,rfl⟩
      .exact .inr (.inr rfl)
      .cases J
     have G:(B.map (enc O)).isEmpty=false:=by cases B<;>simp_all
     have I:=FG (R:=R) hy;generalize AT.fg R ly=L at I Q H;refine Cd h ((BU.Bk _ _ _).trans (BU.kill _ _)) ?_;simp only[YOp.er,Lv.ev,h3,I,Jl,X,An,AT.fg,U.fg,Q];rw[AW ⟨trivial,H,I8 E.2 _,I8 E.2 _,G⟩,<-Kq (RE q),Gp];simp only[AT.fg,U.fg,Cz,Cn,CV,Af,AJ,BX]
    .cases h
   .cases h
  .cases h
 .cases h
theorem AMR{d:Nat}{m:Bool}{x y:YO}(h:ev (.mm d m x y:YOp R) S K=some r):Plain (.mm d m x y:YOp R) S K r:=by
 simp only[ev]at h;split at h
 .rename_i k a E b j q;split at h
  .rename_i B;exact Cd h (BU.refl _) (by simp only[YOp.er,Lv.ev,Ol j,Ol q,U.fg];rw[AW B];rfl)
  .cases h
 .cases h
theorem mn{x:YO}{q:CH}{ks:List (Int×Int)}(h:S.P6 x=some (q,ks)):(S.fg R).P6 (x.er R)=some (q,ks):=by
 unfold St.P6 at h;split at h
 .rename_i E j;split at h
  .rename_i y B;cases h;have:=FG (R:=R) j
   grind[AT.fg,Lv.St.P6,Jl,U.fg]
  .cases h
 .cases h
theorem AIT{d:Nat}(h:ev (.mmk d:YOp R) S K=some r):Plain (.mmk d:YOp R) S K r:=by
 simp only[ev]at h;exact Cd h (BU.refl _) (by simp only[YOp.er,Lv.ev];rfl)
theorem yZ{d:Nat}{x k:YO}(h:ev (.UR d x k:YOp R) S K=some r):Plain (.UR d x k:YOp R) S K r:=by
 simp only[ev]at h;split at h
 .rename_i q ks n j y;exact Cd h (BU.refl _) (by simp only[YOp.er,Lv.ev,mn j,Ol y,U.fg];rfl)
 .cases h
theorem yc{d:Nat}{x:YO}(h:ev (.US d x:YOp R) S K=some r):Plain (.US d x:YOp R) S K r:=by
 simp only[ev]at h;split at h
 .rename_i q ks j;exact Cd h (BU.refl _) (by simp only[YOp.er,Lv.ev,mn j];rfl)
 .cases h
theorem ye{x k v:YO}(h:ev (.TG x k v:YOp R) S K=some r):Plain (.TG x k v:YOp R) S K r:=by
 simp only[ev]at h;split at h
 .rename_i q ks n m j y B;refine⟨_,?_,(BU.Bk _ _ _).trans (BU.kill _ _),h⟩;simp only[YOp.er,Lv.ev,mn j,Ol y,Ol B,U.fg];rw[<-Kq (RE q),Gp];rfl
 .cases h
theorem ALs{o:YOp R}(h:ev o S K=some r):∃S',BU S S'/\K S'=some r/\∀N:Lv.St->Prop,N (S'.fg R)->opK Jb o.er (S.fg R) N:=by
 have pl:Plain o S K r->∃S',BU S S'/\K S'=some r/\∀N:Lv.St->Prop,N (S'.fg R)->opK Jb o.er (S.fg R) N:=fun ⟨S',j,q,y⟩=>⟨S',q,y,fun N hN=>.inl ⟨_,j,hN⟩⟩
 cases o with
 |mv=>exact pl (AMS h)|as=>exact pl (ATP h)|pick=>exact pl (yf h)|alloc=>exact pl (nE h)|box=>exact pl (AIM h)|build=>exact pl (nF h)|CF=>exact pl (aK h)|ld=>exact pl (ATT h)|st=>exact pl (ATU h)|chk=>exact pl (AIN h)|bin=>exact pl (AIL h)|un=>exact pl (ATV h)|cvI=>exact pl (AIP h)|MY=>exact pl (yX h)|Ox=>exact pl (yW h)|NC=>exact pl (ya h)|Ry=>exact pl (yb h)|sub=>exact pl (AIU h)|Vq=>exact pl (yg h)|fa=>exact pl (ATQ h)|fld=>exact pl (AIR h)|ia=>exact pl (ATR h)|ix=>exact pl (ATS h)|ext=>exact pl (AIQ h)|len=>exact pl (AIS h)|lens=>exact pl (yY h)|app=>exact pl (AIK h)|R7=>exact pl (yV h)|cpy=>exact pl (AIO h)|mm=>exact pl (AMR h)|mmk=>exact pl (AIT h)|UR=>exact pl (yZ h)|TG=>exact pl (ye h)|US=>exact pl (yc h)|bad=>simp[ev]at h|drop Q=>exact pl ⟨_,by simp only[YOp.er,Lv.ev,ADH],BU.IQ _ _,h⟩|VZ ns=>exact pl ⟨_,by simp only[YOp.er,Lv.ev,yG],BU.RB _ _,h⟩|call d g fs I args=>
  simp only[ev]at h;split at h
  .rename_i es G;obtain⟨S1,vs,cs,outs,S',j,q,y,B,E⟩:=AAO (Al.of I) h;refine⟨S',B,E,fun N hN=>.inr ⟨d,g.x,es.map (En.fg R),S1,vs,_,cs,outs,_,?_,j,q,y,hN⟩⟩;simp only[YOp.er,Lv.Fo,aS G]
  .cases h
 |D2 d x ms args=>
  simp only[ev]at h;split at h
  .rename_i n caps es H G;split at h
   .rename_i g J;split at h
    .rename_i L;obtain⟨S1,vs,cs,outs,S',j,q,y,B,E⟩:=AAO (Al.nil _) h;refine⟨S',B,E,fun N hN=>.inr ⟨d,g.x,_,S1,vs,_,cs,outs,_,?_,j,q,y,hN⟩⟩;have O:xr R n=g.x:=by unfold xr;rw[J]
     simp only[YOp.er,Lv.Fo,FG H,aS G,AT.fg,O];rw[AW (by rw[g.ms,L])];simp only[Cz,D9,AD,Prod.mk.injEq,true_and,List.append_cancel_left_eq];apply List.map_congr_left;intro c _;simp only[Function.comp,En.fg,AJ,BX,ar]
    .cases h
   .cases h
  .cases h
end
end Y
end Lv
namespace Lv
open Go (IntKind BinOp UnOp)
namespace Y
section
variable{R:List GF}{ρ:Type}
def Bw.er:Bw R->Rt|.nil=>.nil|.op i g sf o rest=>.op i g sf o.er rest.er|.dr ds rest=>.dr ds rest.er|.nl ns rest=>.nl (ns.map fun p=>(p.1,p.2.size)) rest.er|.both _ a b=>.both a.er b.er
def Gv.er:Gv R->Nb|.skip=>.skip|.region ops _=>.region (ops.map fun p=>(p.1,p.2.er)) []|.VE r _=>.VE r.er []|.seq a b=>.seq a.er b.er|.join _ a b=>.seq a.er b.er|.cond c _ _ t e=>.cond c [] [] t.er e.er|.block id b=>.block id b.er|.loop _ b=>.loop b.er|.exit id=>.exit id|.ret=>.ret|.scope b=>.scope b.er|.or a b=>.or a.er b.er|.dead=>.dead|.AW0 _ b=>.loop b.er
theorem AYH(o:YOp R):o.er.ka=o.ka:=by cases o<;>rfl
theorem n0{o:YOp R}{S:St}{K:St->Option ρ}{r:ρ}(h:MQ o S K=some r):∃S',Lv.MQ o.er (S.fg R)=some (S'.fg R)/\BU S S'/\K S'=some r:=by
 unfold MQ at h;unfold Lv.MQ;rw[AYH];split at h
 .rename_i d B;obtain⟨S',j,q,y⟩:=dm (R:=R) h;rw[B];exact⟨S',j,q,y⟩
 grind[BU.refl]
theorem AU0{s:Nat}{e x:Ent}:∀{l:List (Nat×Ent)},get l s=some x->e.fg R=x.fg R->fgE R (reE s e l)=fgE R l
 | [],h,_=>rfl|(k,y)::l,h,q=>by
  simp only[get]at h;simp only[reE];cases j:Nat.beq k s with
  |true=>rw[j]at h;cases h;simp only[fgE,AJ,q]
  |false=>
   rw[j]at h;have:=AU0 (l:=l) h q
   grind[fgE]
theorem ALz{s:Nat}{e:Ent}:∀{l:List (Nat×Ent)} {k:Nat} {y:Ent},get (reE s e l) k=some y->y=e\/get l k=some y
 | [],k,y,h=>.inr h|(j,x)::l,k,y,h=>by
  simp only[reE]at h;cases B:Nat.beq j s with
  |true=>
   grind[get,Nat.beq]
  |false=>
   rw[B]at h;simp only[get]at h ⊢;cases q:Nat.beq j k with
   |true=>rw[q]at h;exact .inr h|false=>rw[q]at h;exact ALz h
theorem AYi{S:St}{s:Nat}{b:Bool}{v:Nat}(h:get S.tm s=some ⟨.one,[.t (.bool b)],v⟩):(S.lit s b).fg R=S.fg R/\BU S (S.lit s b):=by
 refine⟨?_,by simp[St.lit],fun k e q y=>?_,fun _ _ h _=>h,rfl⟩
 .simp only[St.fg,St.lit];have:=AU0 (R:=R) (e:=⟨.one,[.t (.bool b)],S.nv⟩) h rfl;rw[this]
 .rcases ALz q with rfl|j
  .grind
  .exact j
def Gd(R:List GF)(g:Option (Nat×Bool))(o:YOp R)(S:Lv.St)(N:Lv.St->Prop):Prop:=
 ∃b,Lv.wanted S g=some b/\((b=true/\opK Jb o.er S N)\/(b=false/\∃S',Lv.MQ o.er S=some S'/\N S'))
theorem tl{S:St}{s:Nat}{w b:Bool}{v:Nat}(h:get S.tm s=some ⟨.one,[.t (.bool b)],v⟩):Lv.wanted (S.fg R) (some (s,w))=some (b==w):=by
 simp only[Lv.wanted,Xa,h];rfl
theorem AE8{S:St}{s:Nat}{w:Bool}{v:Nat}(h:get S.tm s=some ⟨.one,[.und],v⟩):Lv.wanted (S.fg R) (some (s,w))=some false:=by
 simp only[Lv.wanted,Xa,h];rfl
theorem Tl{S:St}{s:Nat}{w b:Bool}{v:Nat}{o:YOp R}{f:Option ρ}{K:St->Option ρ}{r:ρ}{P:Lv.St->(Lv.St->Prop)->Prop}(y:get S.tm s=some ⟨.one,[.t (.bool b)],v⟩)(x:Bool)(G:x=(b==w))
 (h:nI x o (S.lit s b) f K=some r) (H:f=some r->∃S',BU (S.lit s b) S'/\K S'=some r/\∀N:Lv.St->Prop,N (S'.fg R)->P ((S.lit s b).fg R) N) :
 ∃S',BU S S'/\K S'=some r/\∀N:Lv.St->Prop,N (S'.fg R)->∃b,Lv.wanted (S.fg R) (some (s,w))=some b/\((b=true/\P (S.fg R) N)\/(b=false/\∃S',Lv.MQ o.er (S.fg R)=some S'/\N S')):=by
 obtain⟨I,E⟩:=AYi (R:=R) y;cases x with
 |true=>
  obtain⟨S',j,q,B⟩:=H h;refine⟨S',E.trans j,q,fun N hN=>⟨_,tl y,.inl ⟨G.symm,?_⟩⟩⟩
  grind
 |false=>
  obtain⟨S',j,q,B⟩:=n0 (R:=R) h;refine⟨S',E.trans q,B,fun N hN=>⟨_,tl y,.inr ⟨G.symm,_,?_,hN⟩⟩⟩
  rwa[I]at j
theorem AYM{g:Option (Nat×Bool)}{o:YOp R}{S:St}{K:St->Option ρ}{r:ρ}(h:evg g o S K=some r) :
 ∃S',BU S S'/\K S'=some r/\∀N:Lv.St->Prop,N (S'.fg R)->Gd R g o (S.fg R) N:=by
 unfold evg at h;split at h
 .obtain⟨S',y,B,E⟩:=ALs h;exact⟨S',y,B,fun N hN=>⟨true,rfl,.inl ⟨rfl,E N hN⟩⟩⟩
 .rename_i s w;split at h
  .rename_i b v j;rcases AJE h with ⟨rfl,q⟩|⟨rfl,q⟩
   .exact Tl (P:=opK Jb o.er) j w (by cases w<;>rfl) q fun G=>ALs G
   .exact Tl (P:=opK Jb o.er) j (!w) (by cases w<;>rfl) q fun G=>ALs G
  .rename_i v j;obtain⟨S',y,B,E⟩:=n0 (R:=R) h;exact⟨S',B,E,fun N hN=>⟨false,AE8 j,.inr ⟨rfl,_,y,hN⟩⟩⟩
  .cases h
theorem AQ8:∀{ops:List (Option (Nat×Bool)×YOp R)} {S:St} {K:St->Option ρ} {r:ρ},evs ops S K=some r ->
 ∃S',BU S S'/\K S'=some r/\∀N:Lv.St->Prop,N (S'.fg R)->AIW Jb (ops.map fun p=>(p.1,p.2.er)) (S.fg R) N
 | [],S,K,r,h=>⟨S,BU.refl _,h,fun N hN=>hN⟩|(g,o)::ops,S,K,r,h=>by
  have j:evg g o S (fun S'=>evs ops S' K)=some r:=by
   grind[evs,FE]
  obtain⟨S1,q,y,B⟩:=AYM j;obtain⟨S2,E,G,H⟩:=AQ8 y;exact⟨S2,q.trans E,G,fun N hN=>B _ (H N hN)⟩
theorem AaA(o:YOp R):o.er.wr=o.wr.map (YO.er R):=by cases o<;>rfl
theorem Yt(l:AT):∀(ks:List PK) (es:List En),Lv.J2 (AT.fg R l) (ks.map PK.md) (es.map (En.fg R))=J2 l ks es
 | [],es=>by cases es<;>rfl
 |k::ks,[]=>rfl|k::ks,e::es=>by
  simp only[AJ,Lv.J2,J2,tq,En.fg,List.all_map,Function.comp_def,APQ,Yt l ks es]
theorem AWa{S:St}{l:AT}(h:S.Nw l=true):(S.fg R).Nw (AT.fg R l)=true:=by
 unfold St.Nw at h;split at h
 .simp only[AT.fg,Lv.St.Nw,Pw,Option.isSome_map];exact h
 .rfl
 .rename_i s cs;cases cs<;>simp_all[AT.fg,Lv.St.Nw]
 .grind[AT.fg,Lv.St.Nw,Jl,AWh]
 .rfl
 .rfl
 .cases h
theorem AAP{o:YOp R}{S:Lv.St}(j:∀d g fs y args,o≠.call d g fs y args)(q:∀d x ms args,o≠.D2 d x ms args):Lv.Fo o.er S=none:=by
 cases o<;>first|rfl|(exact(j _ _ _ _ _ rfl).elim)|(exact(q _ _ _ _ rfl).elim)
theorem AVB{o:YOp R}{S:St}{l:AT}(h:Uv o S l=true):Lv.Uv o.er (S.fg R) (AT.fg R l)=true:=by
 unfold Uv at h;simp only[AF]at h;obtain⟨X,q⟩:=h;unfold Lv.Uv;rw[AWa X,Bool.true_and];have E:(AT.fg R l).B1=l.B1:=Kx l;have gen:(∀d g fs Q args,o≠.call d g fs Q args)->(∀d x ms args,o≠.D2 d x ms args) ->
  (match o.wr with|some y=>(match S.one y with|some lt=>l.B1.isNone||!(match l.B1 with|some r=>isR lt.B1 r|none=>lt.B1.isNone)|none=>false)|none=>true)=true ->
  (match Lv.Fo o.er (S.fg R) with
  |some (_,f,es)=>Lv.J2 (AT.fg R l) (Eo f) es|none=>match o.er.wr with
   |some y=>(match (S.fg R).one y with|some lt=>(AT.fg R l).B1.isNone||decide ((AT.fg R l).B1≠lt.B1)|none=>true)
   |none=>true)=true:=by
  intro n1 n2 h;rw[AAP n1 n2,AaA];cases hy:o.wr with
  |none=>rfl|some y=>
   rw[hy]at h;dsimp only at h;cases B:S.one y with
   |none=>rw[B]at h;cases h
   |some lt=>
    rw[B]at h;dsimp only at h ⊢;simp only[An,FG B];rw[E,Kx,decide_not,<-AU8];exact h
 cases o with
 |st n x v=>
  dsimp only at q;have H:Lv.names (AT.fg R l)=names l:=mr l;generalize AT.fg R l=L at H E ⊢;cases B:S.one x with
  |none=>rw[B]at q;cases q
  |some lp=>
   rw[B]at q;have G:=FG (R:=R) B;simp only[YOp.er,G];cases lp with
   |bp id o=>
    dsimp only at q;show (!(Lv.names L).contains id)=true;rw[H,List.contains_eq_mem,<-T8];exact q
   |ep r0 i j=>
    dsimp only at q;show decide (L.B1≠some r0)=true;rw[E];rw[Z5]at q;simpa using q
   |_=>cases q
 |call d g fs Q args=>
  dsimp only at q;cases J:S.rds args with
  |none=>rw[J]at q;cases q
  |some es=>
   rw[J]at q;have G:=Yt (R:=R) l g.ps es;generalize AT.fg R l=L at G ⊢;simp only[YOp.er,Lv.Fo,aS J,g.ms];rw[G];exact q
 |D2 d x ms args=>
  dsimp only at q;split at q
  .rename_i n caps es H Y;split at q
   .rename_i g Z;split at q
    .rename_i h7;have hx:xr R n=g.x:=by unfold xr;rw[Z]
     have I:=Yt (R:=R) l g.ps (es++caps.map fun l=>⟨.one,[l.leaf]⟩);rw[Cz,D9]at I;rw[show (En.fg R∘fun l=>(⟨.one,[l.leaf]⟩:En))=((fun l=>(⟨Sh.one,[l]⟩:Lv.Ent))∘Cap.fg) from by funext c;simp only[Function.comp,En.fg,AJ,BX,ar],<-D9]at I;have O:=FG (R:=R) H;simp only[AT.fg,hx]at O;generalize AT.fg R l=L at I ⊢;simp only[YOp.er,Lv.Fo,O,aS Y];rw[AW (by rw[g.ms,h7])];dsimp only;rw[g.ms,I];exact q
    .cases q
   .cases q
  .cases q
 |_=>exact gen (by intros;simp) (by intros;simp) q
theorem AEe{o:YOp R}{S:St}:∀{sf:List Nat},Js o S sf=true->Lv.Js o.er (S.fg R) sf=true
 | [],h=>rfl|s::sf,h=>by
  simp only[Js,AF]at h;obtain⟨j,q⟩:=h;simp only[Lv.Js,AF];refine⟨?_,AEe q⟩;split at j
  .rename_i l y;have:=FG (R:=R) y
   grind[YO.er,AVB]
  .cases j
theorem vL:∀{a b:List (Option Nat)},ANT a b=true->a=b
 | [],[],_=>rfl|none::r,none::r',h=>by simp only[ANT]at h;rw[vL h]|some a::r,some b::r',h=>by simp only[ANT,AF]at h;rw[beq_true h.1,vL h.2]| [],_::_,h=>by cases h
 |none::_,[],h=>by cases h
 |some _::_,[],h=>by cases h
 |none::_,some _::_,h=>by cases h
 |some _::_,none::_,h=>by cases h
theorem AWV{a b:Sh}(h:AYK a b=true):a=b:=by
 cases a<;>cases b<;>first|rfl|(cases h;done)|(simp only[AYK]at h;first|rw[vL h]|rw[beq_true h])
theorem ADK:∀{a b:Option (Nat×Nat)},ALp a b=true->a=b
 |none,none,_=>rfl|some (a,b),some (j,q),h=>by simp only[ALp,AF]at h;rw[beq_true h.1,beq_true h.2]|none,some _,h=>by cases h
 |some _,none,h=>by cases h
theorem aW:∀{a b:CH},CH.is a b=true->a=b
 |.tmp s c,.tmp s' j,h=>by
  grind[CH.is,beq_true]
 |.cell s c,.cell s' j,h=>by
  simp only[CH.is]at h
  grind[beq_true]
 |.tmp _ _,.cell _ _,h=>by cases h
 |.cell _ _,.tmp _ _,h=>by cases h
theorem ADJ{a b:Src}(h:ALo a b=true):a=b:=by
 cases a<;>cases b<;>simp only[ALo,AF]at h<;>first|(cases h;done)|rw[aW h.1,ADK h.2]|rw[beq_true h]
theorem ALn:∀{a b:List (Nat×Nat)},AWU a b=true->a=b
 | [],[],_=>rfl|(a,b)::r,(j,q)::r',h=>by simp only[AWU,AF]at h;rw[beq_true h.1.1,beq_true h.1.2,ALn h.2]| [],_::_,h=>by cases h
 |_::_,[],h=>by cases h
theorem Sy{γ:Type}{b:Bool}{x:Option γ}{r:γ}(h:ifB b x=some r):b=true/\x=some r:=by
 grind
theorem AFG{x y:U}{X:Option ρ}{r:ρ}(h:agU x y X=some r):x=y/\X=some r:=by
 cases x<;>cases y<;>simp only[agU]at h<;>first|(cases h;done)|exact⟨rfl,h⟩|skip
 .grind[Si]
 .grind[Si]
 .obtain⟨rfl,j⟩:=Si h;exact⟨rfl,j⟩
 .obtain⟨rfl,j⟩:=Si h;exact⟨rfl,j⟩
 .grind[Si]
 grind[Si]
theorem AI7:∀{x y:List U} {X:Option ρ} {r:ρ},AXw x y X=some r->x=y/\X=some r
 | [],[],X,r,h=>⟨rfl,h⟩|a::x,b::y,X,r,h=>by
  obtain⟨rfl,j⟩:=AFG h;obtain⟨rfl,q⟩:=AI7 j;exact⟨rfl,q⟩
 | [],_::_,_,_,h=>by cases h
 |_::_,[],_,_,h=>by cases h
theorem APv{c j:C}{xs:List c.D}{ys:List j.D}{X:Option ρ}{r:ρ}(h:(if h:j=c then eqv xs (h▸ys) X else none)=some r):(⟨c,xs⟩:(c:C)×List c.D)=⟨j,ys⟩/\X=some r:=by
 grind[Si]
theorem AVn:∀{x y:AT} {X:Option ρ} {r:ρ},AZQ x y X=some r->x=y/\X=some r
 |.t x,.t y,X,r,h=>by obtain⟨rfl,q⟩:=AFG h;exact⟨rfl,q⟩
 |.und,.und,X,r,h=>⟨rfl,h⟩|.ow x,.ow y,X,r,h=>by obtain⟨rfl,q⟩:=AFG h;exact⟨rfl,q⟩
 |.owh c xs Q,.owh H ys J,X,r,h=>by
  obtain⟨q,G⟩:=Sy h;obtain⟨E,B⟩:=APv G;cases E;rw[ALn q];exact⟨rfl,B⟩
 |.al L s,.al r' s',X,r,h=>by
  obtain⟨q,h⟩:=Sy h
  grind[aW,ADK]
 |.ep L i j,.ep r' Y Z,X,r,h=>by
  obtain⟨q,h⟩:=Sy h
  grind[Si,aW,beq_true]
 |.vw s c xs,.vw s' H ys,X,r,h=>by
  obtain⟨q,G⟩:=Sy h;obtain⟨E,B⟩:=APv G;cases E;rw[ADJ q];exact⟨rfl,B⟩
 |.vp s cs,.vp s' I,X,r,h=>by
  obtain⟨q,h⟩:=Sy h;obtain⟨rfl,B⟩:=AI7 h;rw[ADJ q];exact⟨rfl,B⟩
 |.bp a o,.bp O o',X,r,h=>by
  obtain⟨q,h⟩:=Sy h
  grind[beq_true]
 |.fn _ _,.fn _ _,_,_,h=>by cases h
 |.t _,.und,_,_,h=>by cases h
 |.t _,.ow _,_,_,h=>by cases h
 |.t _,.owh _ _ _,_,_,h=>by cases h
 |.t _,.al _ _,_,_,h=>by cases h
 |.t _,.ep _ _ _,_,_,h=>by cases h
 |.t _,.vw _ _ _,_,_,h=>by cases h
 |.t _,.vp _ _,_,_,h=>by cases h
 |.t _,.bp _ _,_,_,h=>by cases h
 |.t _,.fn _ _,_,_,h=>by cases h
 |.und,.t _,_,_,h=>by cases h
 |.und,.ow _,_,_,h=>by cases h
 |.und,.owh _ _ _,_,_,h=>by cases h
 |.und,.al _ _,_,_,h=>by cases h
 |.und,.ep _ _ _,_,_,h=>by cases h
 |.und,.vw _ _ _,_,_,h=>by cases h
 |.und,.vp _ _,_,_,h=>by cases h
 |.und,.bp _ _,_,_,h=>by cases h
 |.und,.fn _ _,_,_,h=>by cases h
 |.ow _,.t _,_,_,h=>by cases h
 |.ow _,.und,_,_,h=>by cases h
 |.ow _,.owh _ _ _,_,_,h=>by cases h
 |.ow _,.al _ _,_,_,h=>by cases h
 |.ow _,.ep _ _ _,_,_,h=>by cases h
 |.ow _,.vw _ _ _,_,_,h=>by cases h
 |.ow _,.vp _ _,_,_,h=>by cases h
 |.ow _,.bp _ _,_,_,h=>by cases h
 |.ow _,.fn _ _,_,_,h=>by cases h
 |.owh _ _ _,.t _,_,_,h=>by cases h
 |.owh _ _ _,.und,_,_,h=>by cases h
 |.owh _ _ _,.ow _,_,_,h=>by cases h
 |.owh _ _ _,.al _ _,_,_,h=>by cases h
 |.owh _ _ _,.ep _ _ _,_,_,h=>by cases h
 |.owh _ _ _,.vw _ _ _,_,_,h=>by cases h
 |.owh _ _ _,.vp _ _,_,_,h=>by cases h
 |.owh _ _ _,.bp _ _,_,_,h=>by cases h
 |.owh _ _ _,.fn _ _,_,_,h=>by cases h
 |.al _ _,.t _,_,_,h=>by cases h
 |.al _ _,.und,_,_,h=>by cases h
 |.al _ _,.ow _,_,_,h=>by cases h
 |.al _ _,.owh _ _ _,_,_,h=>by cases h
 |.al _ _,.ep _ _ _,_,_,h=>by cases h
 |.al _ _,.vw _ _ _,_,_,h=>by cases h
 |.al _ _,.vp _ _,_,_,h=>by cases h
 |.al _ _,.bp _ _,_,_,h=>by cases h
 |.al _ _,.fn _ _,_,_,h=>by cases h
 |.ep _ _ _,.t _,_,_,h=>by cases h
 |.ep _ _ _,.und,_,_,h=>by cases h
 |.ep _ _ _,.ow _,_,_,h=>by cases h
 |.ep _ _ _,.owh _ _ _,_,_,h=>by cases h
 |.ep _ _ _,.al _ _,_,_,h=>by cases h
 |.ep _ _ _,.vw _ _ _,_,_,h=>by cases h
 |.ep _ _ _,.vp _ _,_,_,h=>by cases h
 |.ep _ _ _,.bp _ _,_,_,h=>by cases h
 |.ep _ _ _,.fn _ _,_,_,h=>by cases h
 |.vw _ _ _,.t _,_,_,h=>by cases h
 |.vw _ _ _,.und,_,_,h=>by cases h
 |.vw _ _ _,.ow _,_,_,h=>by cases h
 |.vw _ _ _,.owh _ _ _,_,_,h=>by cases h
 |.vw _ _ _,.al _ _,_,_,h=>by cases h
 |.vw _ _ _,.ep _ _ _,_,_,h=>by cases h
 |.vw _ _ _,.vp _ _,_,_,h=>by cases h
 |.vw _ _ _,.bp _ _,_,_,h=>by cases h
 |.vw _ _ _,.fn _ _,_,_,h=>by cases h
 |.vp _ _,.t _,_,_,h=>by cases h
 |.vp _ _,.und,_,_,h=>by cases h
 |.vp _ _,.ow _,_,_,h=>by cases h
 |.vp _ _,.owh _ _ _,_,_,h=>by cases h
 |.vp _ _,.al _ _,_,_,h=>by cases h
 |.vp _ _,.ep _ _ _,_,_,h=>by cases h
 |.vp _ _,.vw _ _ _,_,_,h=>by cases h
 |.vp _ _,.bp _ _,_,_,h=>by cases h
 |.vp _ _,.fn _ _,_,_,h=>by cases h
 |.bp _ _,.t _,_,_,h=>by cases h
 |.bp _ _,.und,_,_,h=>by cases h
 |.bp _ _,.ow _,_,_,h=>by cases h
 |.bp _ _,.owh _ _ _,_,_,h=>by cases h
 |.bp _ _,.al _ _,_,_,h=>by cases h
 |.bp _ _,.ep _ _ _,_,_,h=>by cases h
 |.bp _ _,.vw _ _ _,_,_,h=>by cases h
 |.bp _ _,.vp _ _,_,_,h=>by cases h
 |.bp _ _,.fn _ _,_,_,h=>by cases h
 |.fn _ _,.t _,_,_,h=>by cases h
 |.fn _ _,.und,_,_,h=>by cases h
 |.fn _ _,.ow _,_,_,h=>by cases h
 |.fn _ _,.owh _ _ _,_,_,h=>by cases h
 |.fn _ _,.al _ _,_,_,h=>by cases h
 |.fn _ _,.ep _ _ _,_,_,h=>by cases h
 |.fn _ _,.vw _ _ _,_,_,h=>by cases h
 |.fn _ _,.vp _ _,_,_,h=>by cases h
 |.fn _ _,.bp _ _,_,_,h=>by cases h
theorem uA:∀{x y:List AT} {X:Option ρ} {r:ρ},AVo x y X=some r->x=y/\X=some r
 | [],[],X,r,h=>⟨rfl,h⟩|a::x,b::y,X,r,h=>by
  obtain⟨rfl,j⟩:=AVn h;obtain⟨rfl,q⟩:=uA j;exact⟨rfl,q⟩
 | [],_::_,_,_,h=>by cases h
 |_::_,[],_,_,h=>by cases h
theorem cg{a b:Nat}(h:Nat.blt a b=true):a<b:=by simp[Nat.blt]at h;omega
theorem AFF{v:Nat}{P:Nat->Ent->Prop}(hP:∀k e q,P k e->P k q->e=q):∀{x y:List (Nat×Ent)} {X:Option ρ} {r:ρ},(∀k e,(k,e)∈x->e.ver<v->P k e)->(∀k e,(k,e)∈y->e.ver<v->P k e)->agE v x y X=some r->fgE R x=fgE R y/\X=some r
 | [],[],X,r,_,_,h=>⟨rfl,h⟩|(k,e)::x,(Q,q)::y,X,r,H,I,h=>by
  simp only[agE]at h;split at h
  .rename_i O;have:=beq_true O;subst this;split at h
   .rename_i G;simp only[AF]at G;have:=hP k e q (H k e (Bg ..) (cg G.1)) (I k q (Bg ..) (cg G.2));subst this;obtain⟨B,E⟩:=AFF hP (fun k e j=>H k e (As _ j)) (fun k e j=>I k e (As _ j)) h;exact⟨by unfold fgE at B ⊢;rw[AJ,AJ,B],E⟩
   .obtain⟨J,h⟩:=Sy h;obtain⟨L,h⟩:=uA h;obtain⟨B,E⟩:=AFF hP (fun k e j=>H k e (As _ j)) (fun k e j=>I k e (As _ j)) h;exact⟨by unfold fgE at B ⊢;rw[AJ,AJ,B];simp only[Ent.fg,AWV J,L],E⟩
  .cases h
 | [],_::_,_,_,_,_,h=>by cases h
 |_::_,[],_,_,_,_,h=>by cases h
theorem AFE{v:Nat}{P:Nat->Bx->Prop}(hP:∀k e q,P k e->P k q->e=q):∀{x y:List (Nat×Bx)} {X:Option ρ} {r:ρ},(∀k e,(k,e)∈x->e.ver<v->P k e)->(∀k e,(k,e)∈y->e.ver<v->P k e)->agB v x y X=some r->fgB R x=fgB R y/\X=some r
 | [],[],X,r,_,_,h=>⟨rfl,h⟩|(k,e)::x,(O,q)::y,X,r,H,I,h=>by
  simp only[agB]at h;split at h
  .rename_i L;have:=beq_true L;subst this;split at h
   .rename_i G;simp only[AF]at G;have:=hP k e q (H k e (Bg ..) (cg G.1)) (I k q (Bg ..) (cg G.2));subst this;obtain⟨B,E⟩:=AFE hP (fun k e j=>H k e (As _ j)) (fun k e j=>I k e (As _ j)) h;exact⟨by unfold fgB at B ⊢;rw[AJ,AJ,B],E⟩
   .obtain⟨J,h⟩:=uA h;obtain⟨B,E⟩:=AFE hP (fun k e j=>H k e (As _ j)) (fun k e j=>I k e (As _ j)) h;exact⟨by unfold fgB at B ⊢;rw[AJ,AJ,B,J],E⟩
  .cases h
 | [],_::_,_,_,_,_,h=>by cases h
 |_::_,[],_,_,_,_,h=>by cases h
theorem ADo{α:Type}{k:Nat}{e:α}:∀{l:List (Nat×α)},(k,e)∈l->bm k l=true
 |(j,x)::l,h=>by
  simp only[bm];cases q:Nat.beq j k with
  |true=>rfl|false=>
   rcases Ag.1 h with h|h
   .cases h;rw[Ms]at q;cases q
   .exact ADo h
theorem QA{α:Type}{k:Nat}{e:α}:∀{l:List (Nat×α)},m8 l=true->(k,e)∈l->get l k=some e
 |(j,x)::l,q,h=>by
  simp only[m8,AF,BF]at q;simp only[get];rcases Ag.1 h with h|h
  .cases h;rw[Ms]
  .cases y:Nat.beq j k with
   |true=>rw[beq_true y,ADo h]at q;cases q.1
   |false=>exact QA q.2 h
theorem AXv{S A B:St}{X:Option ρ}{r:ρ}(hA:BU S A)(hB:BU S B)(h:agS S.nv A B X=some r):A.fg R=B.fg R/\X=some r:=by
 obtain⟨E,h⟩:=Sy h;simp only[AF]at E;obtain⟨⟨⟨J,L⟩,O⟩,Q⟩:=E;obtain⟨H,h⟩:=AFF (R:=R) (P:=fun k e=>get S.tm k=some e) (fun k e G h y=>by rw[h]at y;exact Option.some.inj y) (fun k e j q=>hA.tm k e (QA J j) q) (fun k e j q=>hB.tm k e (QA L j) q) h;obtain⟨I,h⟩:=AFE (R:=R) (P:=fun k e=>get S.bx k=some e) (fun k e G h y=>by rw[h]at y;exact Option.some.inj y) (fun k e j q=>hA.bx k e (QA O j) q) (fun k e j q=>hB.bx k e (QA Q j) q) h;exact⟨by simp only[St.fg,H,I,hA.pin,hB.pin],h⟩
theorem ZI:∀{x:Bw R} {S:St} {K:St->Option ρ} {r:ρ},evr x S K=some r ->
 ∃S',BU S S'/\K S'=some r/\∀N:Lv.St->Prop,N (S'.fg R)->runK Jb x.er (S.fg R) N
 |.nil,S,K,r,h=>⟨S,BU.refl _,h,fun N hN=>hN⟩|.dr ds x,S,K,r,h=>by
  obtain⟨S',q,j,y⟩:=ZI (x:=x) h;refine⟨S',(BU.IQ _ _).trans q,j,fun N hN=>?_⟩;have:=y N hN;rw[ADH]at this;exact this
 |.nl ns x,S,K,r,h=>by
  obtain⟨S',q,j,y⟩:=ZI (x:=x) h;refine⟨S',(BU.RB _ _).trans q,j,fun N hN=>?_⟩;have:=y N hN;rw[yG]at this;exact this
 |.both n a b,S,K,r,h=>by
  have h:evr a S (fun A=>evr b S fun B=>agS S.nv A B (K A))=some r:=by
   cases n with
   |zero=>exact h|succ n=>simpa only[evr,AI9] using h
  obtain⟨A,I,J,a3⟩:=ZI (x:=a) (K:=fun A=>evr b S fun B=>agS S.nv A B (K A)) h;obtain⟨B,L,O,Q⟩:=ZI (x:=b) (K:=fun B=>agS S.nv A B (K A)) J;obtain⟨e,j⟩:=AXv (R:=R) I L O;exact⟨A,I,j,fun N hN=>⟨a3 N hN,Q N (e▸hN)⟩⟩
 |.op i g sf o x,S,K,r,h=>by
  have safe:∀{S:St},(if Js o S sf=true then ev o S fun S'=>S'.Fp fun S'=>evr x S' K else none)=some r ->
   ∃S',BU S S'/\evr x S' K=some r/\∀N:Lv.St->Prop,N (S'.fg R)->(Lv.Js o.er (S.fg R) sf=true/\opK Jb o.er (S.fg R) N):=by
   intro S h;split at h
   .rename_i hs;obtain⟨S',q,j,y⟩:=ALs h;rw[FE]at j;exact⟨S',q,j,fun N hN=>⟨AEe hs,y N hN⟩⟩
   .cases h
  have key:∃S',BU S S'/\evr x S' K=some r/\∀N:Lv.St->Prop,N (S'.fg R)->∃b,Lv.wanted (S.fg R) g=some b/\((b=true/\Lv.Js o.er (S.fg R) sf=true/\opK Jb o.er (S.fg R) N)\/(b=false/\∃S',Lv.MQ o.er (S.fg R)=some S'/\N S')):=by
   simp only[evr,AYO]at h;split at h
   .obtain⟨S',q,j,y⟩:=safe h;exact⟨S',q,j,fun N hN=>⟨true,rfl,.inl ⟨rfl,y N hN⟩⟩⟩
   .rename_i s w;split at h
    .rename_i b v E;rcases AJE h with ⟨rfl,G⟩|⟨rfl,G⟩
     .refine Tl (K:=fun S'=>evr x S' K) (P:=fun S N=>Lv.Js o.er S sf=true/\opK Jb o.er S N) E w (by cases w<;>rfl) (f:=if Js o (S.lit s true) sf=true then ev o (S.lit s true) fun S'=>S'.Fp fun S'=>evr x S' K else none) ?_ fun H=>safe H
      simpa only[FE] using G
     .refine Tl (K:=fun S'=>evr x S' K) (P:=fun S N=>Lv.Js o.er S sf=true/\opK Jb o.er S N) E (!w) (by cases w<;>rfl) (f:=if Js o (S.lit s false) sf=true then ev o (S.lit s false) fun S'=>S'.Fp fun S'=>evr x S' K else none) ?_ fun H=>safe H
      simpa only[FE] using G
    .rename_i v E;simp only[FE]at h;obtain⟨S',q,j,y⟩:=n0 (R:=R) h;exact⟨S',j,y,fun N hN=>⟨false,AE8 E,.inr ⟨rfl,_,q,hN⟩⟩⟩
    .cases h
  obtain⟨S1,q,j,y⟩:=key;obtain⟨S2,X,Y,Z⟩:=ZI (x:=x) j;exact⟨S2,q.trans X,Y,fun N hN=>y _ (Z N hN)⟩
end
end Y
end Lv
namespace Lv
open Go (IntKind BinOp UnOp)
namespace Y
section
variable{R:List GF}{ρ:Type}
theorem AS8{s:Option Src}{l:AT}{x:U}(h:AS7 s l=some x):AS6 s x=l:=by
 unfold AS7 at h;split at h
 .cases h
 .cases h
 .cases h
 .rename_i j q y;cases h;cases s<;>cases x<;>first|rfl|(exact(j _ _ rfl).elim)|(exact(q rfl).elim)|(exact(y _ rfl).elim)
 .split at h
  .cases h;rfl
  .cases h
 .split at h
  .cases h;rfl
  .cases h
 .split at h
  .cases h
  .split at h
   .rename_i B;subst B;cases h;rfl
   .cases h
 .cases h
theorem sY{s:Option Src}:∀{ls:List AT} {us:List U},yC s ls=some us->us.map (AS6 s)=ls
 | [],us,h=>by cases h;rfl
 |l::ls,us,h=>by
  simp only[yC]at h;split at h
  .rename_i x xs j q;cases h;rw[AJ,AS8 j,sY q]
  .cases h
theorem AXs{a:AL}{ls:List AT}{x:a.D}(h:a.un ls=some x):a.leaf x=ls:=by
 cases a with
 |val c s=>
  simp only[AL.un]at h;split at h
  .rename_i us q;simp only[AL.leaf];rw[aJ h,sY q]
  .cases h
 |num k=>
  simp only[AL.un]at h;split at h
  .split at h
   .rename_i j;subst j;cases h;rfl
   .cases h
  .cases h
 |al r=>
  simp only[AL.un]at h;split at h
  .split at h
   .rename_i j;subst j;rfl
   .cases h
  .cases h
theorem zZ:∀{as:List AL} {ls:List AT} {x:TA as},AXQ as ls=some x->TD as x=ls
 | [],ls,x,h=>by
  cases ls with
  |nil=>rfl|cons l ls=>cases h
 | [a],ls,x,h=>AXs h|a::j::as,ls,x,h=>by
  simp only[AXQ]at h;split at h
  .rename_i y z q B;cases h;show a.leaf y++TD (j::as) z=ls;rw[AXs q,zZ B,IL]
  .cases h
theorem LY{b:Bool}{k:Nat}:∀{c:Cut} {ls:List AT},OJ b k c=false->look b k (seg c ls)=none
 | [],ls,h=>rfl|(j,d,sh,as)::c,ls,h=>by
  simp only[OJ]at h;simp only[seg,look];split at h
  .cases h
  .exact LY h
theorem ZN{S:St}{k:Nat}:∀{c:Cut} {ls:List AT},Qr S c=some ls->OJ false k c=true->∃e,get S.tm k=some e/\look false k (seg c ls)=some (e.sh,e.cs)
 | [],ls,h,j=>by cases j
 |(false,d,sh,as)::c,ls,h,j=>by
  simp only[Qr]at h;split at h
  .rename_i e ls' B y;split at h
   .rename_i q;cases h;simp only[OJ]at j;simp only[seg,look];split at j
    .rename_i E;have H:d=k:=by simpa[Qd] using E
     subst H;refine⟨e,B,?_⟩;rw[C0 q.2,YV q.1]
    .rename_i E;rw[Cl q.2];exact ZN y j
   .cases h
  .cases h
 |(true,d,sh,as)::c,ls,h,j=>by
  simp only[Qr]at h;split at h
  .rename_i e ls' B y;split at h
   .rename_i q;cases h;have G:((true:Bool)==false)=false:=rfl;simp only[OJ,G,Bm]at j;simp only[seg,look,G,Bm];rw[Cl q];exact ZN y j
   .cases h
  .cases h
theorem ZM{S:St}{k:Nat}:∀{c:Cut} {ls:List AT},Qr S c=some ls->OJ true k c=true->∃e sh,get S.bx k=some e/\look true k (seg c ls)=some (sh,e.cs)
 | [],ls,h,j=>by cases j
 |(true,d,sh,as)::c,ls,h,j=>by
  simp only[Qr]at h;split at h
  .rename_i e ls' B y;split at h
   .rename_i q;cases h;simp only[OJ]at j;simp only[seg,look];split at j
    .rename_i E;have H:d=k:=by simpa[Qd] using E
     subst H;refine⟨e,sh,B,?_⟩;rw[C0 q]
    .rename_i E;rw[Cl q];exact ZM y j
   .cases h
  .cases h
 |(false,d,sh,as)::c,ls,h,j=>by
  simp only[Qr]at h;split at h
  .rename_i e ls' B y;split at h
   .rename_i q;cases h;have G:((false:Bool)==true)=false:=rfl;simp only[OJ,G,Bm]at j;simp only[seg,look,G,Bm];rw[Cl q.2];exact ZM y j
   .cases h
  .cases h
theorem AMf{q:List (Bool×Nat×Sh×List AT)}{a:List (Nat×Ent)}{v:Nat}:∀{l:List (Nat×Ent)},(∀k e,(k,e)∈l->look false k q=some (e.sh,e.cs)\/(look false k q=none/\get a k=some e))->fgE R (na q a v l)=fgE R l
 | [],_=>rfl|(k,e)::l,h=>by
  have y:=AMf (v:=v) (l:=l) (fun k e E=>h k e (As _ E));simp only[fgE,na,AJ]at y ⊢;rw[y];rcases h k e (by simp) with j|⟨j,B⟩
  .rw[j];rfl
  .rw[j,B]
theorem AMe{q:List (Bool×Nat×Sh×List AT)}{a:List (Nat×Bx)}{v:Nat}:∀{l:List (Nat×Bx)},(∀k e,(k,e)∈l->(∃sh,look true k q=some (sh,e.cs))\/(look true k q=none/\get a k=some e))->fgB R (nZ q a v l)=fgB R l
 | [],_=>rfl|(k,e)::l,h=>by
  have y:=AMe (v:=v) (l:=l) (fun k e E=>h k e (As _ E));simp only[fgB,nZ,AJ]at y ⊢;rw[y];rcases h k e (by simp) with ⟨sh,j⟩|⟨j,B⟩
  .rw[j]
  .rw[j,B]
theorem Z9{α:Type}{k:Nat}{e:α}:∀{l:List (Nat×α)},(k,e)∈l->bm k l=true
 |(j,x)::l,h=>by
  simp only[bm];cases q:Nat.beq j k with
  |true=>rfl|false=>
   rcases Ag.1 h with h|h
   .cases h;exact(beq_false q rfl).elim
   .exact Z9 h
theorem tM{c:Cut}{a:List (Nat×Ent)}:∀{l:List (Nat×Ent)} {k:Nat} {e:Ent},AMk c a l=true->(k,e)∈l->get l k=some e/\(OJ false k c=true\/(OJ false k c=false/\∃y,get a k=some y/\e.ver=y.ver))
 |(j,x)::l,k,e,h,q=>by
  simp only[AMk,AF,BF]at h;obtain⟨⟨E,G⟩,B⟩:=h;rcases Ag.1 q with q|q
  .grind[Prod.mk.injEq,get,Nat.beq,Qd,OJ,beq_true]
  .obtain⟨H,I⟩:=tM B q
   grind[get,Nat.beq,beq_true,Z9]
theorem tL{c:Cut}{a:List (Nat×Bx)}:∀{l:List (Nat×Bx)} {k:Nat} {e:Bx},AMj c a l=true->(k,e)∈l->get l k=some e/\(OJ true k c=true\/(OJ true k c=false/\∃y,get a k=some y/\e.ver=y.ver))
 |(j,x)::l,k,e,h,q=>by
  simp only[AMj,AF,BF]at h;obtain⟨⟨E,G⟩,B⟩:=h;rcases Ag.1 q with q|q
  .grind[Prod.mk.injEq,get,Nat.beq,Qd,OJ,beq_true]
  .obtain⟨H,I⟩:=tL B q
   grind[get,Nat.beq,beq_true,Z9]
theorem AP9{a b:Nat}(h:Nat.blt a b=true):a<b:=Nat.le_of_ble_eq_true h
theorem AMx{v:Nat}:∀{l:List (Nat×Ent)} {k:Nat} {e:Ent},wfE v l=true->get l k=some e->e.ver<v
 |(j,x)::l,k,e,h,q=>by
  simp only[wfE,AF]at h;simp only[get]at q;split at q
  .cases q;exact AP9 h.1
  .exact AMx h.2 q
theorem AMw{v:Nat}:∀{l:List (Nat×Bx)} {k:Nat} {e:Bx},wfB v l=true->get l k=some e->e.ver<v
 |(j,x)::l,k,e,h,q=>by
  simp only[wfB,AF]at h;simp only[get]at q;split at q
  .cases q;exact AP9 h.1
  .exact AMw h.2 q
structure FA(c:Cut)(S S':St):Prop where
 tm:∀k e,OJ false k c=false->get S'.tm k=some e->e.ver<S.nv->get S.tm k=some e
 bx:∀k e,OJ true k c=false->get S'.bx k=some e->e.ver<S.nv->get S.bx k=some e
 pin:S'.pin=S.pin
theorem FA.of{c:Cut}{S S':St}(h:BU S S'):FA c S S':=⟨fun k e _=>h.tm k e,fun k e _=>h.bx k e,h.pin⟩
theorem vM{c:Cut}{S S':St}{x:TA c.as}(h:c.fit S S'=some x)(H:FA c S S') :
 (c.st S S' x).fg R=S'.fg R /\
 (∀k e,(k,e)∈S'.tm->look false k (seg c (TD c.as x))=some (e.sh,e.cs)\/(look false k (seg c (TD c.as x))=none/\get S.tm k=some e)) /\
 (∀k e,(k,e)∈S'.bx->(∃sh,look true k (seg c (TD c.as x))=some (sh,e.cs))\/(look true k (seg c (TD c.as x))=none/\get S.bx k=some e)):=by
 unfold Cut.fit at h;split at h
 .rename_i Q;obtain⟨w1,Y,s1,X⟩:=Q;split at h
  .rename_i ls J;rw[zZ h];have hE:∀k e,(k,e)∈S'.tm->look false k (seg c ls)=some (e.sh,e.cs)\/(look false k (seg c ls)=none/\get S.tm k=some e):=by
    intro k e I;obtain⟨q,j⟩:=tM s1 I;rcases j with j|⟨j,L,B,E⟩
    .obtain⟨O,y,G⟩:=ZN J j;rw[q]at y;cases y;exact .inl G
    .exact .inr ⟨LY j,H.tm k e j q (by rw[E];exact AMx w1 B)⟩
   have hB:∀k e,(k,e)∈S'.bx->(∃sh,look true k (seg c ls)=some (sh,e.cs))\/(look true k (seg c ls)=none/\get S.bx k=some e):=by
    intro k e I;obtain⟨q,j⟩:=tL X I;rcases j with j|⟨j,L,B,E⟩
    .obtain⟨O,sh,y,G⟩:=ZM J j;rw[q]at y;cases y;exact .inl ⟨sh,G⟩
    .exact .inr ⟨LY j,H.bx k e j q (by rw[E];exact AMw Y B)⟩
   refine⟨?_,hE,hB⟩;simp only[St.fg,Cut.st,zZ h];rw[AMf hE,AMe hB,H.pin]
  .cases h
 .cases h
theorem tH{q:List (Bool×Nat×Sh×List AT)}{a:List (Nat×Ent)}{v:Nat}:∀{l l':List (Nat×Ent)},OC l l'=true->(∀k e,(k,e)∈l'->look false k q=some (e.sh,e.cs)\/(look false k q=none/\get a k=some e))->na q a v l=na q a v l'
 | [],[],_,_=>rfl| [],_::_,h,_=>by cases h
 |_::_,[],h,_=>by cases h
 |(k,e)::l,(I,G)::l',h,B=>by
  simp only[OC,AF]at h;obtain⟨j,y⟩:=h;have:=beq_true j;subst this;have H:=tH (v:=v) y (fun k e E=>B k e (As _ E))
  grind[na]
theorem tG{q:List (Bool×Nat×Sh×List AT)}{a:List (Nat×Bx)}{v:Nat}:∀{l l':List (Nat×Bx)},OC l l'=true->(∀k e,(k,e)∈l'->(∃sh,look true k q=some (sh,e.cs))\/(look true k q=none/\get a k=some e))->nZ q a v l=nZ q a v l'
 | [],[],_,_=>rfl| [],_::_,h,_=>by cases h
 |_::_,[],h,_=>by cases h
 |(k,e)::l,(I,G)::l',h,B=>by
  simp only[OC,AF]at h;obtain⟨j,y⟩:=h;have:=beq_true j;subst this;have H:=tG (v:=v) y (fun k e E=>B k e (As _ E))
  grind[nZ]
theorem kr{q:List (Bool×Nat×Sh×List AT)}{a:List (Nat×Ent)}{v k:Nat}(G:look false k q=none):∀{l:List (Nat×Ent)} {y:Ent},get (na q a v l) k=some y->∃e,get l k=some e/\y=(match get a k with|some B=>B|none=>e)
 |(j,x)::l,y,h=>by
  simp only[na,get]at h ⊢;cases E:Nat.beq j k with
  |true=>
   grind[beq_true,Option.some.inj]
  |false=>rw[E]at h;exact kr G h
theorem kq{q:List (Bool×Nat×Sh×List AT)}{a:List (Nat×Bx)}{v k:Nat}(G:look true k q=none):∀{l:List (Nat×Bx)} {y:Bx},get (nZ q a v l) k=some y->∃e,get l k=some e/\y=(match get a k with|some B=>B|none=>e)
 |(j,x)::l,y,h=>by
  simp only[nZ,get]at h ⊢;cases E:Nat.beq j k with
  |true=>
   grind[beq_true,Option.some.inj]
  |false=>rw[E]at h;exact kq G h
theorem FA.round{c:Cut}{S S':St}{x:TA c.as}(h:BU (c.st S S x) S'):FA c S S':=by
 refine⟨fun k e G E j=>?_,fun k e G E j=>?_,h.pin⟩
 .have q:=h.tm k e E (Jj j);obtain⟨H,y,B⟩:=kr (LY G) q
  grind
 .have q:=h.bx k e E (Jj j);obtain⟨H,y,B⟩:=kq (LY G) q;rw[y]at B;subst B;exact y
theorem rq{c:Cut}{S S':St}{y:TA c.as}(h:c.fit S S'=some y)(j:FA c S S')(q:OC S.tm S'.tm=true)(B:OC S.bx S'.bx=true):(c.st S S y).fg R=S'.fg R:=by
 obtain⟨E,G,H⟩:=vM (R:=R) h j
 grind[St.fg,Cut.st,tH,tG]
theorem aB{b:Bool}{k:Nat}:∀{c:Cut} {ls:List AT},OJ b k c=true->∃p,look b k (seg c ls)=some p
 |(j,d,sh,as)::c,ls,h=>by
  simp only[OJ]at h;simp only[seg,look];split at h
  .exact⟨_,rfl⟩
  .exact aB h
theorem AEW{q:List (Bool×Nat×Sh×List AT)}{a:List (Nat×Ent)}{v k:Nat}{p:Sh×List AT}(E:look false k q=some p):∀{l:List (Nat×Ent)} {y:Ent},get (na q a v l) k=some y->v<=y.ver
 |(j,z)::l,y,h=>by
  simp only[na,get]at h;cases B:Nat.beq j k with
  |true=>
   grind[beq_true]
  |false=>rw[B]at h;exact AEW E h
theorem AEV{q:List (Bool×Nat×Sh×List AT)}{a:List (Nat×Bx)}{v k:Nat}{p:Sh×List AT}(E:look true k q=some p):∀{l:List (Nat×Bx)} {y:Bx},get (nZ q a v l) k=some y->v<=y.ver
 |(j,z)::l,y,h=>by
  simp only[nZ,get]at h;cases B:Nat.beq j k with
  |true=>
   grind[beq_true]
  |false=>rw[B]at h;exact AEV E h
theorem BU.st{c:Cut}{S S':St}{x:TA c.as}(I:BU S S'):BU S (c.st S S' x):=by
 refine⟨by simp[Cut.st],fun k e B E=>?_,fun k e B E=>?_,rfl⟩
 .cases j:OJ false k c with
  |false=>
   obtain⟨J,G,q⟩:=kr (LY j) B;cases y:get S.tm k with
   |some L=>rw[y]at q;subst q;rfl|none=>
    rw[y]at q;subst q;have:=I.tm k _ G E;rw[y]at this;cases this
  |true=>
   obtain⟨p,H⟩:=aB (ls:=TD c.as x) j;exact absurd E (OR.2 (AEW H B))
 .cases j:OJ true k c with
  |false=>
   obtain⟨J,G,q⟩:=kq (LY j) B;cases y:get S.bx k with
   |some L=>rw[y]at q;subst q;rfl|none=>
    rw[y]at q;subst q;have:=I.bx k _ G E;rw[y]at this;cases this
  |true=>
   obtain⟨p,H⟩:=aB (ls:=TD c.as x) j;exact absurd E (OR.2 (AEV H B))
theorem EW:∀{x:Gv R} {S:St} {K:Ex->St->Option ρ} {r:ρ} {Q:Ex->Lv.St->Prop},HY x S K=some r->(∀e S',BU S S'->K e S'=some r->Q e (S'.fg R))->wp Jb x.er (S.fg R) Q
 |.skip,S,K,r,Q,h,hQ=>hQ _ _ (BU.refl _) h|.region ops FY,S,K,r,Q,h,hQ=>by
  obtain⟨S',O,E,H⟩:=AQ8 (show evs ops S _=some r from h);rw[FE]at E;refine H _ ⟨S'.clo 6 (S'.pin++FY),?_⟩;rw[<-WC];exact hQ _ _ (O.trans (BU.clean _ _)) E
 |.VE x FY,S,K,r,Q,h,hQ=>by
  obtain⟨S',O,E,H⟩:=ZI (show evr x S _=some r from h);rw[FE]at E;refine H _ ⟨S'.clo 6 (S'.pin++FY),?_⟩;rw[<-WC];exact hQ _ _ (O.trans (BU.clean _ _)) E
 |.seq a b,S,K,r,Q,h,hQ=>by
  refine EW (x:=a) (show HY a S _=some r from h) fun e S' q j=>?_
  cases e with
  |n=>exact EW (x:=b) j fun e S2 B E=>hQ _ _ (q.trans B) E|x i=>exact hQ _ _ q j|r=>exact hQ _ _ q j
 |.join c a b,S,K,r,Q,h,hQ=>by
  refine EW (x:=a) (show HY a S _=some r from h) fun e S' q j=>?_
  cases e with
  |n=>
   dsimp only at j ⊢;split at j
   .rename_i x hx;have j:(c.st S S' x).Fp (fun S=>HY b S K)=some r:=by rw[<-AS1 (fun x=>(c.st S S' x).Fp fun S=>HY b S K) x];exact j
    rw[FE]at j;obtain⟨H,_,_⟩:=vM (R:=R) hx (FA.of q);rw[<-H];refine EW (x:=b) j fun e S2 B E=>hQ _ _ ?_ E
    exact(BU.st q).trans B
   .cases j
  |x i=>exact hQ _ _ q j|r=>exact hQ _ _ q j
 |.cond c kt ke t e,S,K,r,Q,h,hQ=>by
  simp only[HY]at h;split at h
  .rename_i b hb;have X:=Ol (R:=R) hb;simp only[YO.er,U.fg]at X;rcases AJE h with ⟨rfl,j⟩|⟨rfl,j⟩
   .rw[FE]at j;refine⟨true,X,S.clo 6 (S.pin++kt),?_⟩;rw[AW rfl,<-WC];exact EW (x:=t) j fun e S2 B E=>hQ _ _ ((BU.clean _ _).trans B) E
   .rw[FE]at j;refine⟨false,X,S.clo 6 (S.pin++ke),?_⟩;rw[AR (by simp),<-WC];exact EW (x:=e) j fun e S2 B E=>hQ _ _ ((BU.clean _ _).trans B) E
  .cases h
 |.block id b,S,K,r,Q,h,hQ=>by
  refine EW (x:=b) (show HY b S _=some r from h) fun e S' q j=>?_
  cases e with
  |n=>exact hQ _ _ q j|x i=>
   dsimp only at j ⊢;split at j
   .rename_i hi;rw[AW hi];exact hQ _ _ q j
   .rename_i hi;rw[AR hi];exact hQ _ _ q j
  |r=>exact hQ _ _ q j
 |.loop c b,S,K,r,Q,h,hQ=>by
  simp only[HY]at h;split at h
  .rename_i x0 J;have key:∀(n:Nat) (x:TA c.as),BD (fun L x=>(c.st S S x).Fp fun S1=>HY b S1 fun e S'=>match e with
    |.n=>if OC S.tm S'.tm=true/\OC S.bx S'.bx=true then (match c.fit S S' with|some y=>L y|none=>none) else none
    |.x i=>K (.x i) S'|.r=>K .r S') n x=some r->AMM (wp Jb b.er) n ((c.st S S x).fg R) Q:=by
    intro n
    induction n with
    |zero=>intro x h;rw[AMN]at h;cases h
    |succ n Z=>
     intro x h;rw[EP]at h;rw[FE]at h;refine EW (x:=b) h fun e S' q j=>?_
     have hS:BU S (c.st S S x):=BU.st (BU.refl S);cases e with
     |n=>
      dsimp only at j ⊢;split at j
      .rename_i G;split at j
       .rename_i y Y;rw[<-rq Y (FA.round q) G.1 G.2];exact Z y j
       .cases j
      .cases j
     |x i=>exact hQ _ _ (hS.trans q) j|r=>exact hQ _ _ (hS.trans q) j
   refine⟨big,?_⟩;obtain⟨H,_,_⟩:=vM (R:=R) J (FA.of (BU.refl S));rw[<-H];exact key big x0 h
  .cases h
 |.exit id,S,K,r,Q,h,hQ=>hQ _ _ (BU.refl _) h|.ret,S,K,r,Q,h,hQ=>hQ _ _ (BU.refl _) h|.scope b,S,K,r,Q,h,hQ=>EW (x:=b) (show HY b S K=some r from h) hQ|.or a b,S,K,r,Q,h,hQ=>(AYz (show orX (HY a S K) (HY b S K)=some r from h)).elim (fun h=>.inl (EW (x:=a) h hQ)) fun h=>.inr (EW (x:=b) h hQ)|.dead,S,K,r,Q,h,hQ=>by cases h
 |.AW0 c b,S00,K,r,Q,h,hQ=>by
  refine⟨big+1,?_⟩;refine EW (x:=b) (show HY b S00 _=some r from h) fun e S I h=>?_
  cases e with
  |n=>
   dsimp only at h ⊢;split at h
   .rename_i x0 J;have key:∀(n:Nat) (x:TA c.as),BD (fun L x=>(c.st S S x).Fp fun S1=>HY b S1 fun e S'=>match e with
     |.n=>if OC S.tm S'.tm=true/\OC S.bx S'.bx=true then (match c.fit S S' with|some y=>L y|none=>none) else none
     |.x i=>K (.x i) S'|.r=>K .r S') n x=some r->AMM (wp Jb b.er) n ((c.st S S x).fg R) Q:=by
     intro n
     induction n with
     |zero=>intro x h;rw[AMN]at h;cases h
     |succ n Z=>
      intro x h;rw[EP]at h;rw[FE]at h;refine EW (x:=b) h fun e S' q j=>?_
      have hS:BU S (c.st S S x):=BU.st (BU.refl S);cases e with
      |n=>
       dsimp only at j ⊢;split at j
       .rename_i G;split at j
        .rename_i y Y;rw[<-rq Y (FA.round q) G.1 G.2];exact Z y j
        .cases j
       .cases j
      |x i=>exact hQ _ _ (I.trans (hS.trans q)) j|r=>exact hQ _ _ (I.trans (hS.trans q)) j
    obtain⟨H,_,_⟩:=vM (R:=R) J (FA.of (BU.refl S));rw[<-H];exact key big x0 h
   .cases h
  |x i=>exact hQ _ _ I h|r=>exact hQ _ _ I h
end
end Y
end Lv
namespace Lv
open Go (IntKind BinOp UnOp)
namespace Y
section
variable{R:List GF}{ρ:Type}
def AZm:C->Bool|.st _=>true|.un _=>true|_=>false
def AAR:List (Bool×C)->Bool| []=>true|(true,_)::r=>AAR r|(false,c)::r=>(!AZm c&&decide (c≠.m))&&AAR r
def AEF:List PK->Bool| []=>true|.f _ l::r=>AAR l&&AEF r|_::r=>AEF r
theorem uO(i:Nat):∀(l:List (Bool×C)) (x:tt l),AAR l=true->Lv.Ow i (SA l x)=some ((Ow i l x).map Cap.fg)
 | [],x,h=>rfl|(true,c)::l,x,h=>by
  have j:=uO i l x.2 h;simp only[SA,Lv.Ow,Ow,AJ,Cap.fg];rw[j,FV];rfl
 |(false,c)::l,x,h=>by
  simp only[AAR,AF,BF,decide_eq_true_eq]at h;have j:=uO i l x.2 h.2;cases c with
  |st n=>cases h.1.1
  |un n=>cases h.1.1
  |m=>exact(h.1.2 rfl).elim|_=>
   simp only[SA,enc,Lv.Ow,Ow,cells,AJ,j];rfl
theorem AVG(c:C)(x:c.D):GI (shC c) (enc c x).length=true:=by
 rw[OY];cases c<;>rfl
theorem N2:∀(ks:List PK) (i:Nat) (fs:List Nat) (a:A ks) (S:St),AEF ks=true->fs.map (fun n=>(R[n]?).map GF.x)=(fX ks).map some ->
 Lv.initK i (ks.map PK.md) (aVs ks a) (S.fg R)=some ((initK i fs ks a S).fg R)
 | [],i,fs,a,S,_,_=>rfl|k::ks,i,fs,a,S,B,y=>by
  obtain⟨j,E⟩:=a;cases k with
  |v c=>
   have hE:enc c j=(cells c j).map U.fg:=FV c j;have q:=N2 ks (i+1) fs E (S.J8 i (shC c) ((cells c j).map (EZ i))) B y;rw[Lt,P7,<-hE]at q;exact q
  |p c=>
   have hE:enc c j=(cells c j).map U.fg:=FV c j;have q:=N2 ks (i+1) fs E (S.J8 i .one [.vp (.old i) (cells c j)]) B y;rw[Lt]at q;simp only[AJ,BX,AT.fg]at q;rw[<-hE]at q;exact q
  |b c=>
   have hE:enc c j=(cells c j).map U.fg:=FV c j;have q:=N2 ks (i+1) fs E (let S1:=(S.J8 i .one [.bp i 0]).OM i ((cells c j).map (EZ i));⟨S1.tm,S1.bx,i::S1.pin,S1.nv⟩) B y;have e:(let S1:=(S.J8 i .one [.bp i 0]).OM i ((cells c j).map (EZ i));(⟨S1.tm,S1.bx,i::S1.pin,S1.nv⟩:St)).fg R={ S.fg R with tm:=Lv.put (S.fg R).tm i ⟨.one,[.bp i 0]⟩,bx:=Lv.put (S.fg R).bx i ((enc c j).map (Lv.EZ i)),pin:=i::(S.fg R).pin}:=by
    have G:=UF (R:=R) (S.J8 i .one [.bp i 0]) i ((cells c j).map (EZ i));rw[Lt,P7,<-hE]at G;have H:=congrArg Lv.St.tm G;have I:=congrArg Lv.St.bx G;simp only[St.fg]at H I ⊢;rw[H,I];rfl
   rw[e]at q;exact q
  |o c=>
   have hE:enc c j=(cells c j).map U.fg:=FV c j;have q:=N2 ks (i+1) fs E (S.J8 i (shC c) ((cells c j).map Jr)) B y;rw[Lt,aE,<-hE]at q;exact q
  |m c=>
   have hE:enc c j=(cells c j).map U.fg:=FV c j;have q:=N2 ks (i+1) fs E (let S1:=S.J8 i (shC c) ((cells c j).map Jr);⟨S1.tm,S1.bx,i::S1.pin,S1.nv⟩) B y;have e:(let S1:=S.J8 i (shC c) ((cells c j).map Jr);(⟨S1.tm,S1.bx,i::S1.pin,S1.nv⟩:St)).fg R={ S.fg R with tm:=Lv.put (S.fg R).tm i ⟨shC c,(enc c j).map Lv.Jr⟩,pin:=i::(S.fg R).pin}:=by
    have G:=Lt (R:=R) S i (shC c) ((cells c j).map Jr);rw[aE,<-hE]at G;have H:=congrArg Lv.St.tm G;simp only[St.fg]at H ⊢;rw[H];rfl
   rw[e]at q;have O:GI (shC c) (enc c j).length=true:=AVG c j;show (if GI (shC c) (enc c j).length=true then _ else none)=_;rw[AW O];exact q
  |f x l=>
   simp only[AEF,AF]at B;cases fs with
   |nil=>simp[fX]at y|cons n fs=>
    simp only[fX,AJ,Cb]at y;have Q:xr R n=x:=by
     unfold xr;cases J:R[n]? with
     |none=>rw[J]at y;simp at y|some g=>rw[J]at y;simpa using y.1
    have q:=N2 ks (i+1) fs E (S.J8 i .one [.fn n (Ow i l j)]) B.2 y.2;rw[Lt]at q;have L:Lv.Ow i (SA l j)=some ((Ow i l j).map Cap.fg):=uO i l j B.1;show (match Lv.Ow i (SA l j) with|some ls=>Lv.initK (i+1) _ _ _|none=>none)=_;rw[L];simp only[AJ,BX,AT.fg,Q]at q;exact q
theorem NF:∀{rs:List Hu} {S:St} {K:List (Option Nat)->List AT->Option ρ} {r:ρ},MP rs S K=some r->∃ns ls,Lv.MP rs (S.fg R)=some (ns,ls.map (AT.fg R))/\K ns ls=some r
 | [],S,K,r,h=>⟨[],[],rfl,h⟩|.tmp t::rs,S,K,r,h=>by
  simp only[MP]at h;split at h
  .rename_i e y;split at h
   .rename_i E;obtain⟨ns,ls,j,q⟩:=NF h;refine⟨_,_,?_,q⟩;have:=LO (R:=R) y;simp only[YO.er]at this;simp only[Lv.MP,this,j,En.fg,Af,E,if_true,Cz];rfl
   .cases h
  .cases h
 |.cell t n::rs,S,K,r,h=>by
  simp only[MP]at h;split at h
  .rename_i id o y;obtain⟨ls',j,h⟩:=Q6 (R:=R) h;obtain⟨ns,ls,q,B⟩:=NF h;refine⟨_,_,?_,B⟩;have:=FG (R:=R) y;simp only[YO.er,AT.fg]at this j;simp only[Lv.MP,this,j,q,Cz]
  .cases h
 |.bx _::rs,S,K,r,h=>by cases h
 |.vw _ _::rs,S,K,r,h=>by cases h
 |.un _ _::rs,S,K,r,h=>by cases h
theorem sj:∀{ls:List AT},N5 ls=true->Lv.N5 (ls.map (AT.fg R))=true
 | [],_=>rfl|l::ls,h=>by
  simp only[N5,AF]at h;simp only[AJ,Lv.N5,AF];refine⟨?_,sj h.2⟩;have j:=h.1
  grind[AT.fg,mZ]
theorem AXD{rk:RK}{rs:List Hu}{S:St}{K:St->List U->Option ρ}{r:ρ}(h:cU rk rs S K=some r):∃S' us,Lv.cU rs (S.fg R)=some (S'.fg R,rk.sh,us.map U.fg)/\K S' us=some r:=by
 unfold cU at h;split at h
 .rename_i k c t;split at h
  .rename_i id y;have j:=FG (R:=R) y;simp only[YO.er,AT.fg]at j;split at h
   .rename_i ls Y;split at h
    .cases h
    .rename_i L;split at h
     .rename_i E;split at h
      .rename_i us G;subst E;refine⟨S,us,?_,h⟩;have O:id∉(S.fg R).pin:=fun X=>L (mem_iff.2 X)
       simp only[Lv.cU,j,Pw,Y,An,N4,PX G];rw[AR O];rfl
      .cases h
     .cases h
   .cases h
  .cases h
 .rename_i k c t k';split at h
  .rename_i E;subst E;split at h
   .rename_i k'' c' xs y;have j:=FG (R:=R) y;simp only[YO.er,AT.fg]at j;split at h
    .rename_i E;subst E;exact⟨S,_,by simp only[Lv.cU,j,if_true];rfl,h⟩
    .cases h
   .rename_i q sub y;have j:=FG (R:=R) y;simp only[YO.er,AT.fg]at j;split at h
    .rename_i x Z;refine⟨_,_,?_,h⟩;simp only[Lv.cU,j,Jl,Z,An,AT.fg,Vd,AJ,BX,Yf];rfl
    .cases h
   .cases h
  .cases h
 .rename_i n c cs t n' r' rs;split at h
  .rename_i J;subst J;split at h
   .rename_i id o y;have B:=FG (R:=R) y;obtain⟨ls',Q,h⟩:=Q6 (R:=R) h;simp only[YO.er,AT.fg]at B Q;split at h
    .rename_i L;obtain⟨ns,ls,j,h⟩:=NF (R:=R) h;split at h
     .rename_i I;split at h
      .rename_i S' us G;obtain⟨H,_⟩:=Lr (R:=R) G;refine⟨S',_,?_,h⟩;simp only[Lv.cU,B,Q];rw[AW (sj L),j];dsimp only;rw[H,I];simp only[Cz,G0];rfl
      .cases h
     .cases h
    .cases h
   .cases h
  .cases h
 .rename_i cs;obtain⟨ns,ls,j,h⟩:=NF (R:=R) h;split at h
  .rename_i I;split at h
   .rename_i S' us G;obtain⟨H,_⟩:=Lr (R:=R) G;refine⟨S',us,?_,h⟩;have:Lv.cU rs (S.fg R)=match Lv.MP rs (S.fg R) with
     |some (ns,ls)=>(match Lv.Dm (S.fg R) ls with|some (S',cs)=>some (S',AEk ns,cs)|none=>none)
     |none=>none:=by
     rcases rs with _|⟨a,_|⟨b,rs⟩⟩
     .rfl
     .cases a<;>first|rfl|(simp[Lv.MP]at j)
     .cases a<;>first|rfl|(simp[Lv.MP]at j)
    rw[this,j];dsimp only;rw[H,I];rfl
   .cases h
  .cases h
 .cases h
theorem AY1{l:AT}{u:U}(h:owT l=some u):Lv.owT (AT.fg R l)=some u.fg:=by
 cases l with
 |ow x=>cases h;rfl
 |t x=>
  grind[owT,AT.fg,Lv.owT,mZ]
 |_=>cases h
theorem AMU:∀{ls:List AT} {us:List U},cS ls=some us->Lv.cS (ls.map (AT.fg R))=some (us.map U.fg)/\us.length=ls.length
 | [],us,h=>by cases h;exact⟨rfl,rfl⟩
 |l::ls,us,h=>by
  simp only[cS]at h;split at h
  .rename_i x xs j q;cases h;obtain⟨y,B⟩:=AMU q;simp only[AJ,Lv.cS,AY1 j,y,AI,B];exact⟨trivial,trivial⟩
  .cases h
theorem eD{k:Nat}:∀{ls:List AT} {us:List U},Fh k ls=some us->us.length=ls.length
 | [],us,h=>by cases h;rfl
 |l::ls,us,h=>by
  simp only[Fh]at h;split at h
  .rename_i x xs q j;cases h;simp only[AI,eD j]
  .cases h
def chunks:List C->List U->List (List U)| [],_=>[]|c::cs,us=>us.take c.size::chunks cs (us.drop c.size)
theorem eL:∀(cs:List C) (us:List U),(chunks cs us).length=cs.length| [],_=>rfl|c::cs,us=>by simp only[chunks,AI,eL cs]
theorem au:∀(cs:List C) (us:List U),us.length=Uw cs->(chunks cs us).flatten=us
 | [],us,h=>by cases us with|nil=>rfl|cons u us=>cases h
 |c::cs,us,h=>by
  simp only[Uw]at h;simp only[chunks,List.flatten_cons];rw[au cs _ (by rw[Bd];omega),IL]
theorem eK:∀(cs j:List C) (us os:List U),us.length=Uw cs->chunks (cs++j) (us++os)=chunks cs us++chunks j os
 | [],j,us,os,h=>by cases us with|nil=>rfl|cons u us=>cases h
 |c::cs,j,us,os,h=>by
  simp only[Uw]at h;simp only[List.cons_append,chunks];rw[List.take_append_of_le_length (by omega),List.drop_append_of_le_length (by omega),eK cs j _ os (by rw[Bd];omega)]
theorem nD:∀{cs:List C} {us:List U} {x:Tu cs},ofT cs us=some x->Qj cs x=(chunks cs us).map (List.map U.fg)
 | [],us,x,h=>rfl| [c],us,x,h=>by
  have j:ofC c us=some x:=h;show [enc c x]=_;rw[Ir j];simp only[chunks,AJ,BX];rw[List.take_of_length_le (by rw[AWt j];exact Ad _)]
 |c::q::cs,us,x,h=>by
  simp only[ofT]at h;split at h
  .rename_i a b y B;cases h;show enc c a::Qj (q::cs) b=_;rw[Ir y,nD B];rfl
  .cases h
theorem Ld{S:St}:∀{ks:List PK} {i:Nat} {os:List U},FL i ks S=some os->Lv.FL i (ks.map PK.md) (S.fg R)=some ((chunks (Lb ks) os).map (List.map U.fg))/\os.length=Uw (Lb ks)
 | [],i,os,h=>by cases h;exact⟨rfl,rfl⟩
 |.b c::ks,i,os,h=>by
  simp only[FL]at h;split at h
  .rename_i ls J B E;obtain⟨G,H⟩:=Ld (ks:=ks) E;split at h
   .rename_i q;split at h
    .rename_i us y;cases h;have j:us.length=c.size:=by rw[eD y,q.2]
     have I:i∈(S.fg R).pin:=mem_iff.1 q.1;refine⟨?_,by simp only[AK,Lb,Uw,j,H]⟩;simp only[AJ,PK.md,Lv.FL,Pw,B,An,G,Lb,chunks];rw[AW I,PX y,C0 j,Cl j];rfl
    .cases h
   .cases h
  .cases h
 |.m c::ks,i,os,h=>by
  simp only[FL]at h;split at h
  .rename_i e J B E;obtain⟨G,H⟩:=Ld (ks:=ks) E;split at h
   .rename_i q;split at h
    .rename_i us y;cases h;obtain⟨L,O⟩:=AMU (R:=R) y;have j:us.length=c.size:=by rw[O,q.2.2]
     have I:i∈(S.fg R).pin:=mem_iff.1 q.1;refine⟨?_,by simp only[AK,Lb,Uw,j,H]⟩;simp only[AJ,PK.md,Lv.FL,Xa,B,An,G,Lb,chunks,Ent.fg,Af];rw[AW ⟨I,q.2.1⟩,L,C0 j,Cl j];rfl
    .cases h
   .cases h
  .cases h
 |.v c::ks,i,os,h=>Ld (ks:=ks) h|.p c::ks,i,os,h=>Ld (ks:=ks) h|.o c::ks,i,os,h=>Ld (ks:=ks) h|.f x l::ks,i,os,h=>Ld (ks:=ks) h
theorem ADI:∀(cs:List C) (x:Tu cs),(Qj cs x).map List.length=cs.map C.size
 | [],x=>rfl| [c],x=>congrArg (fun n=>[n]) (OY c x)|c::j::cs,x=>by
  obtain⟨a,b⟩:=x;show (enc c a).length::(Qj (j::cs) b).map List.length=_;rw[ADI (j::cs) b,OY];rfl
theorem Lc:∀(ks:List PK) (a:A ks) (os:List (List T)),os.map List.length=(Lb ks).map C.size->Lv.Gm (ks.map PK.md) (aVs ks a) os=true
 | [],a,[],h=>rfl| [],a,o::os,h=>by cases h
 |.b c::ks,a,[],h=>by cases h
 |.b c::ks,a,o::os,h=>by
  obtain⟨j,q⟩:=a;simp only[Lb,AJ,Cb]at h;have y:(enc c j).length=c.size:=OY c j;show (o.length==(enc c j).length&&Lv.Gm (ks.map PK.md) (aVs ks q) os)=true;rw[y,h.1,Lc ks q os h.2];simp
 |.m c::ks,a,[],h=>by cases h
 |.m c::ks,a,o::os,h=>by
  simp only[Lb,AJ,Cb]at h;exact Lc ks a.2 os h.2
 |.v c::ks,a,os,h=>Lc ks a.2 os h|.p c::ks,a,os,h=>Lc ks a.2 os h|.o c::ks,a,os,h=>Lc ks a.2 os h|.f x l::ks,a,os,h=>Lc ks a.2 os h
end
def YF.er(f:YF):B2:=.mk (f.ps.map PK.md) f.rs f.body.er
theorem AFY{f:YF}{S:St}{r:Tu (f.rk.cs++Lb f.ps)}(h:fin f.ps f.rk f.rs S=some r) :
 Lv.fin (f.ps.map PK.md) f.rs (S.fg f.R) f.rk.sh ((Qj _ r).take f.rk.cs.length).flatten ((Qj _ r).drop f.rk.cs.length):=by
 unfold fin at h;obtain⟨S',us,B,h⟩:=AXD (R:=f.R) h;split at h
 .rename_i os G;split at h
  .rename_i y;obtain⟨E,H⟩:=Ld (R:=f.R) G;have q:=nD h;rw[eK _ _ _ _ y,Cz]at q;have j:((chunks f.rk.cs us).map (List.map U.fg)).length=f.rk.cs.length:=by rw[Af,eL]
   rw[q,C0 j,Cl j];refine⟨S'.fg f.R,?_,E⟩;rw[B,<-KD,au _ _ y]
  .cases h
 .cases h
theorem YF.sound{f:YF}(q:AEF f.ps=true)(j:f.fs.map (fun n=>(f.R[n]?).map GF.x)=(fX f.ps).map some){a:A f.ps}{r:Tu (f.rk.cs++Lb f.ps)}(h:f.run a=some r) :
 Jb f.er (aVs f.ps a) f.rk.sh ((Qj _ r).take f.rk.cs.length).flatten ((Qj _ r).drop f.rk.cs.length):=by
 unfold YF.run at h;rw[FE]at h;refine .intro ⟨_,N2 (R:=f.R) f.ps 0 f.fs a ⟨[],[],[],0⟩ q j,?_,?_⟩
 .grind[EW,AFY]
 grind[Lc,ADI,Lb,List.map_drop,List.drop_left',List.length_map]
def YF.gf(f:YF)(hp:AEF f.ps=true)(hf:f.fs.map (fun n=>(f.R[n]?).map GF.x)=(fX f.ps).map some)(d:A f.ps->Option (Tu (f.rk.cs++Lb f.ps)))(hd:∀a,f.run a=d a):GF:=
 ⟨f.er,f.ps,f.rk,d,rfl,fun a r h=>YF.sound hp hf ((hd a).trans h)⟩
end Y
end Lv
namespace Lv
open Y
open Go
def pI(c:C)(xs:List c.D)(i:Int)(ys:List c.D):Option (List c.D):=
 if 0<=i/\i.toNat<=xs.length/\ys≠[]/\xs.length+ys.length<=lim then some (xs.take i.toNat++ys++xs.drop i.toNat) else none
theorem ASx{c:C}(q:Uh c=true)(xs:List c.D)(i:Int)(ys:List c.D)(r:List c.D)(h:pI c xs i ys=some r) :
 Jb (.Jg (2*c.size) [.o,.v,.v]) [.o .one (enc (.l c) xs),.v .one (enc .i i),.v .one (enc (.l c) ys)] .one (enc (.l c) r) []:=by
 unfold pI at h;split at h
 .rename_i j;cases h;intro Rn hRn;refine hRn _ _ _ _ _ ?_;show Ua (2*c.size) _ _ _ _;unfold Ua;refine⟨by omega,?_⟩;rw[AW (by omega)];refine⟨_,xs.map (enc c),_,ys.map (enc c),i,rfl,rfl,?_,rfl,?_,I8 q _,I8 q _,j.1,by simpa using j.2.1,by simpa using j.2.2.1,by simpa using j.2.2.2,rfl,?_,rfl⟩
  .simp[eOf]
  .simp[eOf]
  .show [T.sl c.size ((xs.take i.toNat++ys++xs.drop i.toNat).map (enc c))]=_;simp[Cn,CV]
 .cases h
def AYP(c:C)(hf:Uh c=true):GF:=
 ⟨.Jg (2*c.size) [.o,.v,.v],[.o (.l c),.v .i,.v (.l c)],.ret [.l c],fun a=>pI c a.1 a.2.1 a.2.2.1,rfl,fun a r h=>ASx hf _ _ _ r h⟩
def ADE(c:C)(xs:List c.D)(i j:Int):Option (List c.D):=
 if 0<=i/\i<j/\j<=xs.length then some (xs.take i.toNat++xs.drop j.toNat) else none
theorem AQ0{c:C}(E:Uh c=true)(y:decide (0<c.size)=true)(xs:List c.D)(i j:Int)(r:List c.D)(h:ADE c xs i j=some r) :
 Jb (.Jg (2*c.size+1) [.o,.v,.v]) [.o .one (enc (.l c) xs),.v .one (enc .i i),.v .one (enc .i j)] .one (enc (.l c) r) []:=by
 unfold ADE at h;split at h
 .rename_i q;cases h;intro Rn hRn;refine hRn _ _ _ _ _ ?_;show Ua (2*c.size+1) _ _ _ _;unfold Ua;have B:(2*c.size+1) / 2=c.size:=by omega
  have y:=of_decide_eq_true y;refine⟨by omega,?_⟩;rw[AR (by omega),B];refine⟨xs.map (enc c),i,j,rfl,I8 E _,q.1,q.2.1,by simpa using q.2.2,rfl,?_,rfl⟩;show [T.sl c.size ((xs.take i.toNat++xs.drop j.toNat).map (enc c))]=_;simp[Cn,CV]
 .cases h
def AYF(c:C)(hf:Uh c=true)(hs:decide (0<c.size)=true):GF:=
 ⟨.Jg (2*c.size+1) [.o,.v,.v],[.o (.l c),.v .i,.v .i],.ret [.l c],fun a=>ADE c a.1 a.2.1 a.2.2.1,rfl,fun a r h=>AQ0 hf hs _ _ _ r h⟩
structure zq(ps:List PK)(rk:RK) where
 x:B2
 d:A ps->Option (Tu (rk.cs++Lb ps))
 ms:Eo x=ps.map PK.md
 ok:∀a r,d a=some r->Jb x (aVs ps a) rk.sh ((Qj _ r).take rk.cs.length).flatten ((Qj _ r).drop rk.cs.length)
def zq.gf{ps:List PK}{rk:RK}(r:zq ps rk):GF:=⟨r.x,ps,rk,r.d,r.ms,r.ok⟩
def zq.of(g:GF):zq g.ps g.rk:=⟨g.x,g.d,g.ms,g.ok⟩
def zq.nil(ps:List PK)(rk:RK):zq ps rk:=⟨.Jg 1 (ps.map PK.md),fun _=>none,rfl,fun _ _ h=>by cases h⟩
end Lv
namespace Lv
open Go (IntKind BinOp UnOp)
section
variable{a b c d e f g h:Type}
def Bc(k:a->h)(x:a×b):h:=k x.1
def A4(k:a->b->h)(x:a×b×c):h:=k x.1 x.2.1
def Gq(k:a->b->c->h)(x:a×b×c×d):h:=k x.1 x.2.1 x.2.2.1
def Vv(k:a->b->c->d->h)(x:a×b×c×d×e):h:=k x.1 x.2.1 x.2.2.1 x.2.2.2.1
def AVe(k:a->b->c->d->e->h)(x:a×b×c×d×e×f):h:=k x.1 x.2.1 x.2.2.1 x.2.2.2.1 x.2.2.2.2.1
def AI2(k:a->b->c->d->e->f->h)(x:a×b×c×d×e×f×g):h:=k x.1 x.2.1 x.2.2.1 x.2.2.2.1 x.2.2.2.2.1 x.2.2.2.2.2.1
end
namespace Y
def YF.EI(f:YF)(d:A f.ps->Option (Tu (f.rk.cs++Lb f.ps)))(hd:∀a,f.run a=d a:=by intro a;kernel_rfl)(hp:AEF f.ps=true:=by rfl)(hf:f.fs.map (fun n=>(f.R[n]?).map GF.x)=(fX f.ps).map some:=by rfl):GF:=f.gf hp hf d hd
end Y
def PQ{γ:Type}(x y:Bp)(X:Option γ):Option γ:=eqv x.Data y.Data (eqv x.Safe y.Safe X)
theorem MU{γ:Type}(x:Bp)(X:Option γ):PQ x x X=X:=by unfold PQ;simp only[Ce]
def RX{γ:Type}(x y:B6)(X:Option γ):Option γ:=eqv x.Code y.Code (eqv x.Ids y.Ids X)
theorem zd{γ:Type}(x:B6)(X:Option γ):RX x x X=X:=by unfold RX;simp only[Ce]
def zg{γ:Type}(x y:Db)(X:Option γ):Option γ:=eqv x.TF y.TF (eqv x.at_ y.at_ (eqv x.AAD y.AAD X))
theorem zh{γ:Type}(x:Db)(X:Option γ):zg x x X=X:=by unfold zg;simp only[Ce]
def Oq{γ:Type}(x y:Ax)(X:Option γ):Option γ:=eqv x.b_ y.b_ (eqv x.i_ y.i_ (eqv x.h_ y.h_ X))
theorem Ym{γ:Type}(x:Ax)(X:Option γ):Oq x x X=X:=by unfold Oq;simp only[Ce]
def zb{γ:Type}(x y:Au)(X:Option γ):Option γ:=eqv x.Level y.Level (eqv x.A0 y.A0 (eqv x.Id y.Id (eqv x.BE y.BE X)))
theorem zc{γ:Type}(x:Au)(X:Option γ):zb x x X=X:=by unfold zb;simp only[Ce]
def AXt{γ:Type}(x y:B3)(X:Option γ):Option γ:=eqv x.Kind y.Kind (eqv x.Id y.Id (eqv x.Ab y.Ab (eqv x.Bu y.Bu (eqv x.BE y.BE (eqv x.DJ y.DJ X)))))
theorem RY{γ:Type}(x:B3)(X:Option γ):AXt x x X=X:=by unfold AXt;simp only[Ce]
def ze{γ:Type}(x y:BZ)(X:Option γ):Option γ:=eqv x.Log.Data y.Log.Data (eqv x.Log.Safe y.Log.Safe (eqv x.DW.Data y.DW.Data (eqv x.DW.Safe y.DW.Safe (eqv x.Odd.Data y.Odd.Data (eqv x.Odd.Safe y.Odd.Safe X)))))
theorem NK{γ:Type}(x:BZ)(X:Option γ):ze x x X=X:=by unfold ze;simp only[Ce]
def CU{γ:Type}(x y:Aa)(X:Option γ):Option γ:=eqv x.AY y.AY (eqv x.CS y.CS (eqv x.Room y.Room (eqv x.BE y.BE (eqv x.CE y.CE (eqv x.Bz y.Bz (eqv x.Rest y.Rest (eqv x.CY y.CY (eqv x.Cu y.Cu X))))))))
theorem K4{γ:Type}(x:Aa)(X:Option γ):CU x x X=X:=by unfold CU;simp only[Ce]
def K3{γ:Type}(x y:AU)(X:Option γ):Option γ:=eqv x.Id y.Id (eqv x.Ab y.Ab (eqv x.Bu y.Bu (eqv x.BE y.BE (eqv x.DJ y.DJ (eqv x.Since y.Since (eqv x.A0 y.A0 (eqv x.State y.State (eqv x.C7 y.C7 (eqv x.Dh y.Dh X)))))))))
theorem GK{γ:Type}(x:AU)(X:Option γ):K3 x x X=X:=by unfold K3;simp only[Ce]
def Jz{γ:Type}(x y:AE)(X:Option γ):Option γ:=eqv x.AQ.AY y.AQ.AY (eqv x.AQ.CS y.AQ.CS (eqv x.AQ.Room y.AQ.Room (eqv x.AQ.BE y.AQ.BE (eqv x.AQ.CE y.AQ.CE (eqv x.AQ.Bz y.AQ.Bz (eqv x.AQ.Rest y.AQ.Rest (eqv x.AQ.CY y.AQ.CY (eqv x.AQ.Cu y.AQ.Cu (eqv x.Now y.Now (eqv x.A0 y.A0 (eqv x.AG y.AG (eqv x.AH y.AH (eqv x.BB y.BB (eqv x.A9 y.A9 X))))))))))))))
theorem IJ{γ:Type}(x:AE)(X:Option γ):Jz x x X=X:=by unfold Jz;simp only[Ce]
def OI{γ:Type}(x y:Ap)(X:Option γ):Option γ:=eqv x.BO.AQ.AY y.BO.AQ.AY (eqv x.BO.AQ.CS y.BO.AQ.CS (eqv x.BO.AQ.Room y.BO.AQ.Room (eqv x.BO.AQ.BE y.BO.AQ.BE (eqv x.BO.AQ.CE y.BO.AQ.CE (eqv x.BO.AQ.Bz y.BO.AQ.Bz (eqv x.BO.AQ.Rest y.BO.AQ.Rest (eqv x.BO.AQ.CY y.BO.AQ.CY (eqv x.BO.AQ.Cu y.BO.AQ.Cu (eqv x.BO.Now y.BO.Now (eqv x.BO.A0 y.BO.A0 (eqv x.BO.AG y.BO.AG (eqv x.BO.AH y.BO.AH (eqv x.BO.BB y.BO.BB (eqv x.BO.A9 y.BO.A9 (eqv x.BH.Log.Data y.BH.Log.Data (eqv x.BH.Log.Safe y.BH.Log.Safe (eqv x.BH.DW.Data y.BH.DW.Data (eqv x.BH.DW.Safe y.BH.DW.Safe (eqv x.BH.Odd.Data y.BH.Odd.Data (eqv x.BH.Odd.Safe y.BH.Odd.Safe (eqv x.Seq y.Seq (eqv x.Laid y.Laid X))))))))))))))))))))))
theorem IY{γ:Type}(x:Ap)(X:Option γ):OI x x X=X:=by unfold OI;simp only[Ce]
def Yl{γ:Type}(x y:Cf)(X:Option γ):Option γ:=eqv x.Ao.BO.AQ.AY y.Ao.BO.AQ.AY (eqv x.Ao.BO.AQ.CS y.Ao.BO.AQ.CS (eqv x.Ao.BO.AQ.Room y.Ao.BO.AQ.Room (eqv x.Ao.BO.AQ.BE y.Ao.BO.AQ.BE (eqv x.Ao.BO.AQ.CE y.Ao.BO.AQ.CE (eqv x.Ao.BO.AQ.Bz y.Ao.BO.AQ.Bz (eqv x.Ao.BO.AQ.Rest y.Ao.BO.AQ.Rest (eqv x.Ao.BO.AQ.CY y.Ao.BO.AQ.CY (eqv x.Ao.BO.AQ.Cu y.Ao.BO.AQ.Cu (eqv x.Ao.BO.Now y.Ao.BO.Now (eqv x.Ao.BO.A0 y.Ao.BO.A0 (eqv x.Ao.BO.AG y.Ao.BO.AG (eqv x.Ao.BO.AH y.Ao.BO.AH (eqv x.Ao.BO.BB y.Ao.BO.BB (eqv x.Ao.BO.A9 y.Ao.BO.A9 (eqv x.Ao.BH.Log.Data y.Ao.BH.Log.Data (eqv x.Ao.BH.Log.Safe y.Ao.BH.Log.Safe (eqv x.Ao.BH.DW.Data y.Ao.BH.DW.Data (eqv x.Ao.BH.DW.Safe y.Ao.BH.DW.Safe (eqv x.Ao.BH.Odd.Data y.Ao.BH.Odd.Data (eqv x.Ao.BH.Odd.Safe y.Ao.BH.Odd.Safe (eqv x.Ao.Seq y.Ao.Seq (eqv x.Ao.Laid y.Ao.Laid (eqv x.GS y.GS (eqv x.Dn y.Dn (eqv x.Iv y.Iv X)))))))))))))))))))))))))
theorem zf{γ:Type}(x:Cf)(X:Option γ):Yl x x X=X:=by unfold Yl;simp only[Ce]
def Ee:List U:=[.nil,.int .i64 0,.int .i64 0,.int .i64 0,.int .i64 0,.int .i64 0,.int .i64 0,.int .i64 0,.int .i64 0,.int .i64 0,.int .i64 0,.nil,.nil,.nil,.nil]
def AXU:List U:=[.int .i64 0,.int .i64 0,.int .i64 0,.int .i64 0,.int .i64 0,.int .i64 0,.int .i64 0,.int .i64 0,.int .i64 0,.int .i64 0]
def AXT:List U:=[.int .i64 0,.int .i64 0,.int .i64 0,.int .i64 0,.int .i64 0,.nil,.nil]
def ev2{α0 α1 γ:Type}(a0:α0)(a1:α1)(X:Option γ):Option γ:=eqv a0 a0 (eqv a1 a1 X)
theorem Kg{α0 α1 γ:Type}(a0:α0)(j:α1)(X:Option γ):ev2 a0 j X=X:=by unfold ev2;simp only[Ce]
def ev3{α0 α1 α2 γ:Type}(a0:α0)(a1:α1)(a2:α2)(X:Option γ):Option γ:=eqv a0 a0 (eqv a1 a1 (eqv a2 a2 X))
theorem Kh{α0 α1 α2 γ:Type}(a0:α0)(j:α1)(q:α2)(X:Option γ):ev3 a0 j q X=X:=by unfold ev3;simp only[Ce]
def ev4{α0 α1 α2 α3 γ:Type}(a0:α0)(a1:α1)(a2:α2)(a3:α3)(X:Option γ):Option γ:=eqv a0 a0 (eqv a1 a1 (eqv a2 a2 (eqv a3 a3 X)))
theorem Ki{α0 α1 α2 α3 γ:Type}(a0:α0)(j:α1)(q:α2)(a3:α3)(X:Option γ):ev4 a0 j q a3 X=X:=by unfold ev4;simp only[Ce]
def ev5{α0 α1 α2 α3 α4 γ:Type}(a0:α0)(a1:α1)(a2:α2)(a3:α3)(a4:α4)(X:Option γ):Option γ:=eqv a0 a0 (eqv a1 a1 (eqv a2 a2 (eqv a3 a3 (eqv a4 a4 X))))
theorem Kj{α0 α1 α2 α3 α4 γ:Type}(a0:α0)(j:α1)(q:α2)(a3:α3)(a4:α4)(X:Option γ):ev5 a0 j q a3 a4 X=X:=by unfold ev5;simp only[Ce]
def ev6{α0 α1 α2 α3 α4 α5 γ:Type}(a0:α0)(a1:α1)(a2:α2)(a3:α3)(a4:α4)(a5:α5)(X:Option γ):Option γ:=eqv a0 a0 (eqv a1 a1 (eqv a2 a2 (eqv a3 a3 (eqv a4 a4 (eqv a5 a5 X)))))
theorem J4{α0 α1 α2 α3 α4 α5 γ:Type}(a0:α0)(j:α1)(q:α2)(a3:α3)(a4:α4)(y:α5)(X:Option γ):ev6 a0 j q a3 a4 y X=X:=by unfold ev6;simp only[Ce]
def ev7{α0 α1 α2 α3 α4 α5 α6 γ:Type}(a0:α0)(a1:α1)(a2:α2)(a3:α3)(a4:α4)(a5:α5)(a6:α6)(X:Option γ):Option γ:=eqv a0 a0 (eqv a1 a1 (eqv a2 a2 (eqv a3 a3 (eqv a4 a4 (eqv a5 a5 (eqv a6 a6 X))))))
theorem Kk{α0 α1 α2 α3 α4 α5 α6 γ:Type}(a0:α0)(j:α1)(q:α2)(a3:α3)(a4:α4)(y:α5)(B:α6)(X:Option γ):ev7 a0 j q a3 a4 y B X=X:=by unfold ev7;simp only[Ce]
def ev8{α0 α1 α2 α3 α4 α5 α6 α7 γ:Type}(a0:α0)(a1:α1)(a2:α2)(a3:α3)(a4:α4)(a5:α5)(a6:α6)(a7:α7)(X:Option γ):Option γ:=eqv a0 a0 (eqv a1 a1 (eqv a2 a2 (eqv a3 a3 (eqv a4 a4 (eqv a5 a5 (eqv a6 a6 (eqv a7 a7 X)))))))
theorem Kl{α0 α1 α2 α3 α4 α5 α6 α7 γ:Type}(a0:α0)(j:α1)(q:α2)(a3:α3)(a4:α4)(y:α5)(B:α6)(E:α7)(X:Option γ):ev8 a0 j q a3 a4 y B E X=X:=by unfold ev8;simp only[Ce]
def orE{ρ:Type}(a b:Option ρ):Option ρ:=match a with|some r=>some r|none=>b
def GF.orE(g:GF)(d d2:A g.ps->Option (Tu (g.rk.cs++Lb g.ps)))(hd:∀a,d a=Lv.orE (g.d a) (d2 a))
 (hk:∀a r,d2 a=some r->Jb g.x (aVs g.ps a) g.rk.sh ((Qj _ r).take g.rk.cs.length).flatten ((Qj _ r).drop g.rk.cs.length)):GF:=
 ⟨g.x,g.ps,g.rk,d,g.ms,fun a r h=>by
  rw[hd]at h;unfold Lv.orE at h;split at h
  .rename_i r' h';cases h;exact g.ok a _ h'
  .exact hk a r h⟩
namespace Y
section
variable{R:List GF}
def qn(l:List (YOp R)):List (Option (Nat×Bool)×YOp R):=l.map fun o=>(none,o)
def qf(g:Nat)(l:List (YOp R)):List (Option (Nat×Bool)×YOp R):=l.map fun o=>(some (g,false),o)
def qt(g:Nat)(l:List (YOp R)):List (Option (Nat×Bool)×YOp R):=l.map fun o=>(some (g,true),o)
def qr(l:List (List (Option (Nat×Bool)×YOp R)))(FY:List Nat):Gv R:=.region l.flatten FY
def q1(l:List (YOp R))(FY:List Nat):Gv R:=.region (qn l) FY
def qdl(r:Bw R):Nat->List (Option (Nat×Bool)×YOp R)->Bw R|_,[]=>r|i,o::l=>.op i o.1 [] o.2 (qdl r (i+1) l)
def qd(i:Nat)(l:List (List (Option (Nat×Bool)×YOp R)))(r:Bw R):Bw R:=qdl r i l.flatten
def qm(d s:Nat):YOp R:=.mv d (.tmp s)
def qa(d s:Nat):YOp R:=.as d (.tmp s)
def qo(d o s:Nat):YOp R:=.fa d o (.tmp s)
def ql(d s:Nat):YOp R:=.ld d none (.tmp s)
def qL(d n s:Nat):YOp R:=.ld d (some n) (.tmp s)
def qb(d:Nat)(o:BinOp)(x y:Nat):YOp R:=.bin d .num o (.tmp x) (.tmp y)
def qi(d:Nat)(o:BinOp)(x:Nat)(n:Int):YOp R:=.bin d .num o (.tmp x) (.k (.int .i64 n))
def qx(d s:Nat):YOp R:=.un d .not (.tmp s)
def qp(d c x:Nat):YOp R:=.pick d (.tmp c) (.k (.bool true)) (.tmp x)
def qq(d c x:Nat):YOp R:=.pick d (.tmp c) (.tmp x) (.k (.bool false))
def qc(d:Nat)(g:GF)(hf:([]:List Nat).map (fun n=>(R[n]?).map GF.x)=(fX g.ps).map some)(l:List Nat):YOp R:=.call d g [] hf (l.map .tmp)
def qz(d s:Nat):YOp R:=.len d (.tmp s)
def qe(d:Nat)(c:C)(x i:Nat):YOp R:=.ia d c (.tmp x) (.tmp i)
def qk(d:Nat)(n:Int):YOp R:=.mv d (.k (.int .i64 n))
def qK(d:Nat)(n:Int):YOp R:=.as d (.k (.int .i64 n))
def qB(d:Nat)(b:Bool):YOp R:=.as d (.k (.bool b))
def qw(n x v:Nat):YOp R:=.st n (.tmp x) (.tmp v)
def qu(d s:Nat):YOp R:=.box d (.tmp s)
def qj(n:Int):YO:=.k (.int .i64 n)
instance (n:Nat):OfNat YO n:=⟨.tmp n⟩
def kpF:Nat->Nat->Nat->List Nat
 |0,_,_=>[]|f+1,i,n=>match Nat.beq n 0 with|true=>[]|false=>match Nat.testBit n 0 with|true=>i::kpF f (i+1) (n / 2)|false=>kpF f (i+1) (n / 2)
def wU:Nat->List (Nat->Nat->YOp R)->List (YOp R)|_,[]=>[]|0,f::l=>f 0 0::wU 1 l|k+1,f::l=>f (k+1) k::wU (k+2) l
def wn(d:Nat)(l:List (Nat->Nat->YOp R)):List (Option (Nat×Bool)×YOp R):=qn (wU d l)
def wf(g d:Nat)(l:List (Nat->Nat->YOp R)):List (Option (Nat×Bool)×YOp R):=qf g (wU d l)
def wt(g d:Nat)(l:List (Nat->Nat->YOp R)):List (Option (Nat×Bool)×YOp R):=qt g (wU d l)
def w1(d:Nat)(l:List (Nat->Nat->YOp R))(FY:List Nat):Gv R:=q1 (wU d l) FY
def sw(d:Nat)(l:List (Nat->Nat->YOp R))(FY:List Nat)(b:Gv R):Gv R:=.seq (q1 (wU d l) FY) b
def sq(l:List (YOp R))(FY:List Nat)(b:Gv R):Gv R:=.seq (q1 l FY) b
def sr(l:List (List (Option (Nat×Bool)×YOp R)))(FY:List Nat)(b:Gv R):Gv R:=.seq (qr l FY) b
def wm(s d _p:Nat):YOp R:=.mv d (.tmp s)
def wM(d p:Nat):YOp R:=.mv d (.tmp p)
def wo(o s d _p:Nat):YOp R:=.fa d o (.tmp s)
def wO(o d p:Nat):YOp R:=.fa d o (.tmp p)
def wl(s d _p:Nat):YOp R:=.ld d none (.tmp s)
def wL(d p:Nat):YOp R:=.ld d none (.tmp p)
def wk(n s d _p:Nat):YOp R:=.ld d (some n) (.tmp s)
def wK(n d p:Nat):YOp R:=.ld d (some n) (.tmp p)
def wz(s d _p:Nat):YOp R:=.len d (.tmp s)
def wZ(d p:Nat):YOp R:=.len d (.tmp p)
def wx(s d _p:Nat):YOp R:=.un d .not (.tmp s)
def wX(d p:Nat):YOp R:=.un d .not (.tmp p)
def wb(o:BinOp)(x y d _p:Nat):YOp R:=.bin d .num o (.tmp x) (.tmp y)
def wB(o:BinOp)(x d p:Nat):YOp R:=.bin d .num o (.tmp x) (.tmp p)
def wi(o:BinOp)(x:Nat)(n:Int)(d _p:Nat):YOp R:=.bin d .num o (.tmp x) (.k (.int .i64 n))
def wI(o:BinOp)(n:Int)(d p:Nat):YOp R:=.bin d .num o (.tmp p) (.k (.int .i64 n))
def wr(c x d _p:Nat):YOp R:=.pick d (.tmp c) (.k (.bool true)) (.tmp x)
def wR(c d p:Nat):YOp R:=.pick d (.tmp c) (.k (.bool true)) (.tmp p)
def wq(c x d _p:Nat):YOp R:=.pick d (.tmp c) (.tmp x) (.k (.bool false))
def wQ(c d p:Nat):YOp R:=.pick d (.tmp c) (.tmp p) (.k (.bool false))
def we(c:C)(x i d _p:Nat):YOp R:=.ia d c (.tmp x) (.tmp i)
def wE(c:C)(x d p:Nat):YOp R:=.ia d c (.tmp x) (.tmp p)
def wc(g:GF)(hf:([]:List Nat).map (fun n=>(R[n]?).map GF.x)=(fX g.ps).map some)(l:List YO)(d _p:Nat):YOp R:=.call d g [] hf l
def wY(g:GF)(hf:([]:List Nat).map (fun n=>(R[n]?).map GF.x)=(fX g.ps).map some)(d p:Nat):YOp R:=.call d g [] hf [.tmp p]
def wj(n:Int)(d _p:Nat):YOp R:=.mv d (.k (.int .i64 n))
def wh(f:Nat->YOp R)(d _p:Nat):YOp R:=f d
def Kp(n:Nat):List Nat:=kpF 300 0 n
def cv(n:Nat)(c:C):Bool×Nat×Sh×List AL:=(false,n,.one,[.val c none])
def ca(n:Nat)(c:C):Bool×Nat×Sh×List AL:=(false,n,.agg,[.val c none])
def cx(n:Nat)(c:C):Bool×Nat×Sh×List AL:=(true,n,.one,[.val c none])
def cn(c:Nat)(ke:List Nat)(t:Gv R):Gv R:=.cond c [] ke t .skip
def ce(c:Nat)(kt ke:List Nat)(id:Nat):Gv R:=.cond c kt ke .skip (.exit id)
def bl(id:Nat)(c:Cut)(b:Gv R):Gv R:=.block id (.loop c b)
end
end Y
end Lv
namespace Lv
open Go
section
variable{A:Nat->Nat->List Md->Prop}{P:Program}
def fnd(n:Nat)(ms:List Md):List (Nat×B2)->Option B2
 | []=>none|p::r=>match Nat.beq p.1 n&&decide (Eo p.2=ms) with|true=>some p.2|false=>fnd n ms r
theorem vN {n ms x}:∀{r:List (Nat×B2)},fnd n ms r=some x->(n,x)∈r
 | [],h=>by cases h
 |(k,y)::r,h=>by
  unfold fnd at h;split at h
  .rename_i j;cases h;rw[AF]at j;have q:k=n:=Nat.eq_of_beq_eq_true j.1;subst q;exact Bg
  .exact As _ (vN h)
theorem Mt.at{r:List (Nat×B2)} {n x} (h:∀p∈r,Mt A P p.1 p.2) (e:fnd n (Eo x) r=some x):Mt A P n x:=h _ (vN e)
def caO(P:Program)(p:Nat×B2):List (Nat×B2):=match P.funcs[p.1]? with|some fn=>AAN fn p.2|none=>[]
def okO(P:Program)(p:Nat×B2):Bool:=match P.funcs[p.1]? with|some fn=>ATO P fn p.2|none=>false
def okM(P:Program):List (Nat×B2)->Bool| []=>true|p::l=>okO P p&&okM P l
def caM(P:Program):List (Nat×B2)->List (List (Nat×B2))| []=>[]|p::l=>caO P p::caM P l
def ex1(r:List (Nat×B2))(q:Nat×B2):Nat×B2:=match fnd q.1 (Eo q.2) r with|some x=>(q.1,x)|none=>(q.1+1,q.2)
def exM(P:Program):List (Nat×B2)->List (Nat×B2)->List (List (Nat×B2))| [],_=>[]|p::l,r=>(caO P p).map (ex1 r)::exM P l (p::r)
theorem AMO{α:Type}{f:α->α}:∀{l:List α},l=l.map f->∀x∈l,x=f x
 |a::l,h,x,j=>by
  injection h with q y;rcases Ag.1 j with rfl|j
  .exact q
  .exact AMO y x j
theorem Mt.s:∀{l r:List (Nat×B2)},(∀p∈r,Mt A P p.1 p.2)->okM P l=true->caM P l=exM P l r->∀p∈l.reverseAux r,Mt A P p.1 p.2
 | [],_,h,_,_=>h|p::l,r,h,G,J=>by
  unfold okM at G;unfold caM exM at J;rw[AF]at G;obtain⟨y,L⟩:=G;injection J with j B;refine Mt.s (l:=l) (r:=p::r) (fun q H=>?_) L B;rcases Ag.1 H with rfl|H
  .unfold okO at y;unfold caO at j;cases E:P.funcs[q.1]? with
   |none=>simp[E]at y|some fn=>
    simp only[E]at y j;refine Mt.by E y rfl fun t O=>?_
    have e:=AMO j t O;unfold ex1 at e;cases I:fnd t.1 (Eo t.2) r with
    |none=>
     rw[I]at e;have:=congrArg Prod.fst e;simp at this
    |some x=>
     rw[I]at e;rw[e];exact h _ (vN I)
  .exact h q H
def lX(l:List (Nat×GF)):List (Nat×B2):=l.map fun p=>(p.1,p.2.x)
end
end Lv
