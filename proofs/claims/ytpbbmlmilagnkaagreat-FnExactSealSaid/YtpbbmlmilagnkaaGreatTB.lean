/-
  The typed light machine is right, fifth part: what comes back from calls.
-/
import Derived.Test.YtpbbmlmilagnkaaGreatTA
import Derived.KernelRfl
import Derived.Test.YtpbbmlmilagnkaaGreatLvE
noncomputable section
set_option linter.unusedVariables false
set_option linter.unusedSimpArgs false
set_option linter.unusedSectionVars false
open Bool renaming and_eq_true->AD,false_and->BN,false_eq_true->A4,not_eq_true'->Az
open List renaming all_eq_true->B9,drop_left'->C2,ext_getElem?->Eb,getD_eq_getElem?_getD->A6,getElem?_eq_some_iff->AN,getElem?_map->Ap,getElem?_set->DE,length_append->BM,length_cons->Ao,length_drop->CU,length_map->An,length_nil->Ad,map_append->CO,map_cons->AI,map_drop->B2,map_flatten->IM,map_map->DG,map_nil->BC,map_replicate->FT,map_set->Fz,map_take->CF,mem_cons->Ac,mem_cons_of_mem->Ag,mem_cons_self->BG,take_append_drop->Gb,take_left'->EA
open List.cons renaming injEq->C1
open Nat renaming beq_refl->J9,le_refl->A2,lt_succ_of_lt->Hk,not_lt->LM,sub_self->DI
open Option renaming getD_some->IQ,map_some->Ab
open Option.some renaming injEq->AB
namespace Lv
open Go (IntKind BinOp UnOp)
theorem ADS{γ:Type}{b:Bool}{x y:Option γ}{r:γ}(h:br b x y=some r):(b=true/\x=some r)\/(b=false/\y=some r):=by
 grind[ASM]
theorem Mz{γ:Type}{p:Prop} [Decidable p] {x:Option γ} {r:γ} (h:gd p x=some r):p/\x=some r:=by
 grind[ALW]
theorem SX{α γ:Type}{o:Option α}{f:α->Option γ}{r:γ}(h:bd o f=some r):∃a,o=some a/\f a=some r:=ob (zC o f▸h)
theorem Ur(X:List (List T))(i j:Nat)(o:T)(k:Nat):(HI X i j o)[k]?=if k=i then (X[i]?).map (fun row=>row.set j o) else X[k]?:=by
 grind[HI,List.getElem?_eq_getElem,List.getElem?_eq_none]
theorem AJN(X:List (List T))(i j i2 j2:Nat)(o t:T)(h:j2≠j):HI (HI X i2 j2 t) i j o=HI (HI X i j o) i2 j2 t:=by
 apply Eb
 grind[Ur,List.set_comm]
theorem AJO(X:List (List T))(i j:Nat)(o t:T):HI (HI X i j t) i j o=HI X i j o:=by
 apply Eb;intro k;simp only[Ur];by_cases h1:k=i
 .subst h1;simp only[if_true];cases X[k]? with|none=>rfl|some row=>simp
 .simp only[if_neg h1]
namespace Y
section
variable{R:List GF}{ρ:Type}
theorem lF(i j:Nat)(o:T):∀(hs:List (Nat×Nat)) (X:List (List T)),(∀p∈hs,p.2≠j)->HI (KD X hs) i j o=KD (HI X i j o) hs
 | [],X,_=>rfl|(a,b)::hs,X,h=>by
  simp only[KD];rw[lF i j o hs _ (fun p hp=>h p (by simp[hp])),AJN X i j a b o .top (h (a,b) (by simp))]
theorem APN{c:C}{xs:List c.D}{i j:Nat}{o:U}{x x':c.D}(hx:xs[i]?=some x)(h:ofC c ((cells c x).set j o)=some x'):HI (xs.map (enc c)) i j o.fg=(xs.set i x').map (enc c):=by
 have h1:i<xs.length:=(AN.1 hx).1;apply Eb;intro k;simp only[Ur,Ap,DE];by_cases hk:k=i
 .subst hk;simp only[if_true,hx,Ab,h1,AB];rw[Gy h,EX,Fz]
 grind
theorem Kv:∀{ls:List AP} {us:List U} {S:St} {K:St->Option ρ} {r:ρ},Fp S ls us K=some r ->
 ∃S',Lv.Fp (S.fg R) (ls.map (AP.fg R)) (us.map U.fg)=some (S'.fg R)/\BE S S'/\K S'=some r
 | [],[],S,K,r,h=>⟨S,rfl,BE.refl _,h⟩| [],u::us,S,K,r,h=>by simp[Fp]at h|l::ls,[],S,K,r,h=>by cases l<;>simp[Fp]at h
 |l::ls,o::us,S,K,r,h=>by
  cases l with
  |t x=>
   have h:Fp S ls us K=some r:=h;obtain⟨S',h1,h2,h3⟩:=Kv h;exact⟨S',h1,h2,h3⟩
  |al q sub=>
   cases sub with
   |some p=>simp[Fp]at h|none=>
    have h:Fp (S.BT q (.ow o)) ls us K=some r:=h;obtain⟨S',h1,h2,h3⟩:=Kv h;refine⟨S',?_,(BE.BT _ _ _).trans h2,h3⟩;rw[Fj]at h1;exact h1
  |vw s c xs=>
   cases s with
   |old k=>simp[Fp]at h|own q p=>
    cases p with
    |none=>simp[Fp]at h|some p=>
     obtain⟨i,j⟩:=p;simp only[Fp]at h;split at h
     .rename_i c' rows i' j' hs hat;split at h
      .rename_i hj;obtain⟨rfl,hall⟩:=hj;obtain⟨rfl,h⟩:=Mz h;obtain⟨x,hx,h⟩:=SX h;split at h
       .rename_i x' hx';obtain⟨S',h1,h2,h3⟩:=Kv h;refine⟨S',?_,((BE.BT _ _ _).trans (BE.kill _ _)).trans h2,h3⟩;have hne:∀p∈hs,p.2≠j':=by
         intro p hp;have:=B9.1 hall p hp;intro he;simp[he]at this
        simp only[AI,AP.fg,Lv.Fp,Ic,hat,Ab];rw[<-Ip (OG q),Fj]at h1;rw[<-h1];congr 3;simp only[KD];rw[lF _ _ _ hs _ hne,AJO,APN hx hx'];cases hs with
        |nil=>simp only[AP.fg,U.fg,KD]|cons p hs=>simp only[AP.fg]
       .cases h
      .cases h
     .cases h
  |_=>simp[Fp]at h
theorem AQy(S0 S:Lv.St)(ms:List Md)(e:Lv.Ent)(es:List Lv.Ent)(outs:List (List T)):Lv.Ed S0 S (.b::ms) (e::es) outs=match ASv e,outs with
 |some id,o::outs=>(match Lv.get S0.bx id,Lv.get S.bx id with
  |some ls,some ls1=>if o.length=ls1.length then Lv.Ed S0 { S with bx:=Lv.put S.bx id (o.map (Lv.Db (Lv.Cp ls)))} ms es outs else none
  |_,_=>none)
 |_,_=>none:=by
 obtain⟨sh,cs⟩:=e;cases sh<;>try rfl
 rcases cs with _|⟨l,_|⟨l2,ls⟩⟩
 .rfl
 .cases l<;>try rfl
  rename_i id off;cases off<;>cases outs<;>rfl
 .cases l<;>try rfl
  rename_i id off;cases off<;>rfl
theorem ASI{S0 S:St}{c:C}{ks:List PK}{e:En}{es:List En}{outs:List (List U)}{K:St->Option ρ}:Ed S0 S (.b c::ks) (e::es) outs K=match bp0 e,outs with
 |some id,o::outs=>(match get S0.bx id,get S.bx id with
  |some ls,some ls1=>if o.length=ls1.cs.length then Ed S0 (S.LJ id (o.map (Db (Cp ls.cs)))) ks es outs K else none|_,_=>none)
 |_,_=>none:=by
 obtain⟨sh,cs⟩:=e;cases sh<;>try rfl
 rcases cs with _|⟨l,_|⟨l2,ls⟩⟩
 .rfl
 .cases l<;>try rfl
  rename_i id off;cases off<;>cases outs<;>rfl
 .cases l<;>try rfl
  rename_i id off;cases off<;>rfl
theorem Kg{S0:St}:∀{ks:List PK} {es:List En} {outs:List (List U)} {S:St} {K:St->Option ρ} {r:ρ},Ed S0 S ks es outs K=some r ->
 ∃S',Lv.Ed (S0.fg R) (S.fg R) (ks.map PK.md) (es.map (En.fg R)) (outs.map fun o=>o.map U.fg)=some (S'.fg R)/\BE S S'/\K S'=some r
 | [],es,[],S,K,r,h=>by
  refine⟨S,?_,BE.refl _,?_⟩
  .cases es<;>rfl
  .cases es<;>exact h
 | [],es,o::outs,S,K,r,h=>by cases es<;>simp[Ed]at h
 |k::ks,[],outs,S,K,r,h=>by cases outs<;>simp[Ed]at h
 |k::ks,e::es,outs,S,K,r,h=>by
  cases k with
  |b c=>
   rw[ASI]at h;simp only[AI,PK.md];rw[AQy,AKB];split at h
   .rename_i id o outs' hb;rw[hb];simp only[AI,Mx];split at h
    .rename_i ls ls1 hl hl1;rw[hl,hl1];split at h
     .rename_i hlen;obtain⟨S',h1,h2,h3⟩:=Kg h;refine⟨S',?_,(BE.LJ _ _ _).trans h2,h3⟩;simp only[Ab,An,hlen,if_true];rw[QP,M7]at h1;rw[K1];exact h1
     .cases h
    .cases h
   .cases h
  |m c=>
   cases outs with
   |nil=>simp[Ed]at h|cons o outs=>
    have h:Fp S e.cs o (fun S'=>Ed S0 S' ks es outs K)=some r:=h;obtain⟨S1,h1,h2,h3⟩:=Kv (R:=R) h;obtain⟨S',h4,h5,h6⟩:=Kg h3;refine⟨S',?_,h2.trans h5,h6⟩;simp only[AI,PK.md,Lv.Ed,En.fg,h1];exact h4
  |v c=>
   have h:Ed S0 S ks es outs K=some r:=by cases outs<;>exact h
   obtain⟨S',h1,h2,h3⟩:=Kg h;refine⟨S',?_,h2,h3⟩;cases outs<;>exact h1
  |p c=>
   have h:Ed S0 S ks es outs K=some r:=by cases outs<;>exact h
   obtain⟨S',h1,h2,h3⟩:=Kg h;refine⟨S',?_,h2,h3⟩;cases outs<;>exact h1
  |o c=>
   have h:Ed S0 S ks es outs K=some r:=by cases outs<;>exact h
   obtain⟨S',h1,h2,h3⟩:=Kg h;refine⟨S',?_,h2,h3⟩;cases outs<;>exact h1
  |f x l=>
   have h:Ed S0 S ks es outs K=some r:=by cases outs<;>exact h
   obtain⟨S',h1,h2,h3⟩:=Kg h;refine⟨S',?_,h2,h3⟩;cases outs<;>exact h1
theorem fE{S:St}{d:Nat}{ls:List AP}{K:St->Option ρ}{r:ρ}(h:M9 S d ls K=some r):∃S',Lv.M9 (S.fg R) d (ls.map (AP.fg R))=some (S'.fg R)/\BE S S'/\K S'=some r:=by
 unfold M9 at h;split at h
 .cases h
 .rename_i hm;have hp:d∉(S.fg R).pin:=KV.1 hm;refine⟨_,?_,((BE.kill _ _).trans (BE.IC _ _ _ _)).trans (BE.LJ _ _ _),h⟩;unfold Lv.M9;rw[if_neg hp,QP,JP,<-Ip (q':=fun l=>Lv.D9 d l||Lv.Ei d l) (fun l=>by rw[Ua,UZ])];rfl
theorem AQx{S:St}{e:En}{k:Nat}(h:eX S e=some k):Lv.eX (S.fg R) (e.fg R)=some k:=by
 have gen:∀(cs:List AP),(if (Ee (Cp cs) cs).isSome=true then some (Cp cs) else none)=some k->(if (Lv.Ee (Lv.Cp (cs.map (AP.fg R))) (cs.map (AP.fg R))).isSome=true then some (Lv.Cp (cs.map (AP.fg R))) else none)=some k:=by
  intro cs h;rw[K1];cases hb:Ee (Cp cs) cs with
  |none=>rw[hb]at h;simp at h|some us=>rw[MV hb];rw[hb]at h;simpa using h
 obtain⟨sh,cs⟩:=e;cases sh<;>try exact gen cs h
 rcases cs with _|⟨l,_|⟨l2,ls⟩⟩
 .exact gen [] h
 .have g1:=gen [l];cases l with
  |bp id off=>
   grind[eX,En.fg,AP.fg,Lv.eX,Mx]
  |_=>exact g1 h
 .have g1:=gen (l::l2::ls);cases l<;>exact g1 h
theorem AGN{g:GF}{S0:St}{es:List En}{k lab:Nat}(h:eY g.ps S0 es k=some lab):Lv.eY g.x (S0.fg R) (es.map (En.fg R)) k=some lab:=by
 unfold eY at h;unfold Lv.eY;rw[g.ms];simp only[Ap];split at h
 .rename_i e he;rw[he];simp only[Ab];split at h
  .cases h
  .rename_i hk;rw[if_neg]
   .exact AQx h
   .intro hc;cases hp:g.ps[k]? with
    |none=>rw[hp]at hc;simp at hc|some q=>rw[hp]at hc;cases q<;>simp[PK.md]at hc;exact hk _ hp
 .cases h
theorem cW:∀(cs:List C) (x:Tu cs),Ns cs x=(O1 cs x).map fun l=>l.map U.fg| [],_=>rfl| [c],x=>congrArg (fun z=>[z]) (EX c x)|c::c'::cs,x=>by simp only[Ns,O1,AI,EX,cW (c'::cs) x.2]
theorem AQ7{d:Nat}{g:GF}{es:List En}{S0 S:St}{x:Tu (g.rk.cs++JG g.ps)}{K:St->Option ρ}{r:ρ}(h:post d g es S0 S x K=some r) :
 ∃S',Lv.post d g.x (es.map (En.fg R)) (S0.fg R) (S.fg R) g.rk.sh ((Ns _ x).take g.rk.cs.length).flatten ((Ns _ x).drop g.rk.cs.length)=some (S'.fg R)/\BE S S'/\K S'=some r:=by
 unfold post at h;obtain⟨S1,h1,h2,h3⟩:=Kg (R:=R) h;unfold Lv.post;rw[g.ms,cW,<-B2,h1,<-CF,<-IM];generalize ((O1 (g.rk.cs++JG g.ps) x).take g.rk.cs.length).flatten=us at h3;dsimp only;cases hr:g.rk with
 |ptr k c=>
  rw[hr]at h3;simp only[RK.sh];dsimp only at h3;split at h3
  .rename_i lab hl;rw[AGN hl];obtain⟨S2,h4,h5,h6⟩:=fE (R:=R) h3;rw[M7]at h4;exact⟨S2,h4,h2.trans h5,h6⟩
  .cases h3
 |vw k c=>
  rw[hr]at h3;simp only[RK.sh];dsimp only at h3;split at h3
  .rename_i lab hl;rw[AGN hl];obtain⟨S2,h4,h5,h6⟩:=YE (R:=R) h3;rw[M7]at h4;exact⟨S2,h4,h2.trans h5,h6⟩
  .cases h3
 |ret cs=>
  rw[hr]at h3;dsimp only at h3;obtain⟨S2,h4,h5,h6⟩:=YE (R:=R) h3;rw[WU]at h4;refine⟨S2,?_,h2.trans h5,h6⟩;simp only[RK.sh];cases hs:yb (cs.map wC) with
  |ptr k=>exfalso;revert hs;unfold yb;split<;>simp|vw k=>exfalso;revert hs;unfold yb;split<;>simp|one=>rw[hs]at h4;exact h4|agg=>rw[hs]at h4;exact h4|tup ns=>rw[hs]at h4;exact h4
theorem ra{d:Nat}{g:GF}{fs:List Nat}{es:List En}{S:St}{K:St->Option ρ}{r:ρ}(hA:Al R fs (fX g.ps))(h:ADg d g fs es S K=some r) :
 ∃S1 vs cs outs S',Lv.pre g.x (es.map (En.fg R)) (S.fg R)=some (S1,vs)/\Hb g.x vs g.rk.sh cs outs/\Lv.post d g.x (es.map (En.fg R)) (S.fg R) S1 g.rk.sh cs outs=some (S'.fg R)/\BE S S'/\K S'=some r:=by
 unfold ADg at h;split at h
 .cases h
 .rename_i hc;split at h
  .rename_i S1 a h1;obtain⟨x,hx,h⟩:=SX h;obtain⟨h2,h3⟩:=AJ4 hA h1;obtain⟨S',h4,h5,h6⟩:=AQ7 (R:=R) h;refine⟨_,_,_,_,S',?_,g.ok a x hx,h4,h3.trans h5,h6⟩;unfold Lv.pre;rw[g.ms];have:=rh (R:=R) g.ps [] es;rw[BC]at this;rw[this,hc,if_neg (by decide),h2]
  .cases h
end
end Y
end Lv
namespace Lv
open Go (IntKind BinOp UnOp)
namespace Y
section
variable{R:List GF}{ρ:Type}
theorem EE{S:St}{x:YO}{l:AP}(h:S.one x=some l):(S.fg R).one (x.er R)=some (AP.fg R l):=by
 unfold St.one at h;split at h
 .rename_i l' hr;cases h;simp only[Lv.St.one,I6 hr,En.fg,AI,BC]
 .cases h
theorem Lg{S:St}{x:YO}{u:U}(h:S.sc x=some u):(S.fg R).sc (x.er R)=some u.fg:=by
 unfold St.sc AC1 at h;split at h
 .rename_i o l' hr;cases h;simp only[Lv.St.sc,I6 hr,En.fg,AI,BC,AP.fg,Lv.AC1]
 .cases h
theorem Pf{S:St}{x:YO}{n:Int}(h:S.nat x=some n):(S.fg R).nat (x.er R)=some n:=by
 unfold St.nat at h;split at h
 .rename_i u hu;simp only[Lv.St.nat,Lg hu];cases u<;>simp[ATk]at h<;>subst h<;>rfl
 .cases h
theorem ASl{k:Kd}{a b:U}{c:Bool}(h:eqU k a b=some c):eqT k a.fg b.fg=some c:=by
 cases k<;>cases a<;>cases b<;>simp only[eqU]at h<;>first|cases h;done|exact h
theorem AF1:∀{ks:List Kd} {as bs:List U} {c:Bool},w8 ks as bs=some c->zS ks (as.map U.fg) (bs.map U.fg)=some c
 | [],[],[],c,h=>h| [],[],b::bs,c,h=>by simp[w8]at h| [],a::as,bs,c,h=>by cases bs<;>simp[w8]at h
 |k::ks,[],bs,c,h=>by cases bs<;>simp[w8]at h
 |k::ks,a::as,[],c,h=>by simp[w8]at h|k::ks,a::as,b::bs,c,h=>by
  simp only[w8]at h;split at h
  .rename_i x y h1 h2;cases h;simp only[AI,zS,ASl h1,AF1 h2]
  .cases h
theorem qg:∀{ls:List AP} {us:List U},SK ls=some us->Lv.SK (ls.map (AP.fg R))=some (us.map U.fg)
 | [],us,h=>by cases h;rfl
 |l::ls,us,h=>by
  cases l with
  |t x=>
   simp only[SK]at h;split at h
   .rename_i us' h1;cases h;simp only[AI,AP.fg,Lv.SK,qg h1,Ab]
   .cases h
  |_=>simp[SK]at h
theorem ALX{cst:Bool}{p:Prop} [Decidable p] {x:Option ρ} {r:ρ} (h:gdc cst p x=some r):p/\x=some r:=by
 cases cst with
 |true=>simp only[gdc]at h;split at h<;>simp_all|false=>exact Mz h
theorem AQq{cst:Bool}{op:BinOp}{k:IntKind}{a b:Int}{K:U->Option ρ}{r:ρ}(h:ASs cst op k a b K=some r):∃u,XQ op k a b=some (U.fg u)/\K u=some r:=by
 cases op<;>simp only[ASs]at h<;>first
  |exact⟨_,rfl,h⟩|(obtain⟨h1,h⟩:=ALX h;exact⟨_,by simp only[XQ];rw[if_neg h1];rfl,h⟩)
  |cases h
theorem APR{cst:Bool}{op:BinOp}{k:IntKind}{a b:Int}{K:U->Option ρ}{r:ρ}(h:shU cst op k a b K=some r):∃u,AC2 op k a b=some (U.fg u)/\K u=some r:=by
 cases op<;>simp only[shU]at h<;>first
  |cases h;done
  |(obtain⟨h1,h⟩:=ALX h;exact⟨_,by simp only[AC2];rw[if_neg h1];rfl,h⟩)
theorem APh(n:Int):(U.u8 (toB n)).fg=.int .u8 (IntKind.u8.wrap n):=by simp only[U.fg,AJf]
theorem ASN{op:BinOp}{a b:Int}{K:U->Option ρ}{r:ρ}(h:byU op a b K=some r):∃u,XQ op .u8 a b=some (U.fg u)/\K u=some r/\AQs op=false:=by
 cases op<;>simp only[byU]at h<;>first
  |cases h;done
  |exact⟨_,by rw[APh];rfl,h,rfl⟩|exact⟨_,rfl,h,rfl⟩
theorem mX{op:BinOp}{k k':IntKind}{a b:Int}:YS op (.int k a) (.int k' b)=if AQs op=true then AC2 op k a b else if k=k' then XQ op k a b else none:=by
 cases op<;>rfl
theorem AP9{cst:Bool}{op:BinOp}{x y:U}{K:U->Option ρ}{r:ρ}(h:ASJ cst op x y K=some r):∃u,YS op x.fg y.fg=some (U.fg u)/\K u=some r:=by
 unfold ASJ at h;split at h
 .rename_i k a k' b;split at h
  .rename_i hs;obtain⟨u,h1,h2⟩:=APR h;exact⟨u,by show YS op (.int k a) (.int k' b)=_;rw[mX,if_pos hs];exact h1,h2⟩
  .rename_i hs;split at h
   .rename_i hk;split at h
    .cases h
    .obtain⟨u,h1,h2⟩:=AQq h;exact⟨u,by show YS op (.int k a) (.int k' b)=_;rw[mX,if_neg hs,if_pos hk];exact h1,h2⟩
   .cases h
 .rename_i k a b;split at h
  .rename_i hs;obtain⟨u,h1,h2⟩:=APR h;exact⟨u,by show YS op (.int k a) (.int .u8 b.toNat)=_;rw[mX,if_pos hs];exact h1,h2⟩
  .cases h
 .rename_i a b;obtain⟨u,h1,h2,h3⟩:=ASN h;exact⟨u,by show YS op (.int .u8 a.toNat) (.int .u8 b.toNat)=_;rw[mX,if_neg (by simp[h3]),if_pos rfl];exact h1,h2⟩
 .rename_i a b;split at h
  .obtain⟨h1,h⟩:=Mz h;exact⟨_,by show (if a.length+b.length<=AC4 then some (T.str (a++b)) else none)=some (U.fg (.str (a++b)));rw[if_pos h1];rfl,h⟩
  .exact⟨_,rfl,h⟩
  .exact⟨_,rfl,h⟩
  .cases h
 .cases h
theorem zR{op:BinOp}{b:Bool}{K:U->Option ρ}{r:ρ}(h:eqK op b K=some r):∃u,iV op b=some (U.fg u)/\K u=some r:=by
 cases op<;>simp only[eqK]at h<;>first
  |cases h;done
  |exact⟨_,rfl,h⟩
theorem XT{α β:Type}{f:α->β}{xs:List α}(h:xs.isEmpty=false):∃y ys,xs.map f=y::ys:=by
 cases xs with
 |nil=>simp at h|cons x xs=>exact⟨_,_,rfl⟩
theorem AQ1{S:St}{l:AP}{K:Bool->Option ρ}{r:ρ}(h:S.Rr l K=some r):∃b,(S.fg R).Rr (AP.fg R l)=some b/\K b=some r:=by
 unfold St.Rr at h;split at h
 .exact⟨true,rfl,h⟩
 .rename_i s c xs;obtain⟨h1,h⟩:=Mz h;obtain⟨y,ys,hy⟩:=XT (f:=enc c) h1;exact⟨false,by simp only[AP.fg,hy,Lv.St.Rr],h⟩
 .rename_i q;simp only[AP.fg,Lv.St.Rr,Ic];split at h
  .rename_i hq;rw[hq];exact⟨true,rfl,h⟩
  .rename_i c xs hq;rw[hq];obtain⟨h1,h⟩:=Mz h;obtain⟨y,ys,hy⟩:=XT (f:=enc c) h1;exact⟨false,by simp only[Ab,AP.fg,U.fg,hy],h⟩
  .cases h
 .cases h
theorem ASK{S:St}{cst:Bool}{c:Cls}{op:BinOp}{x y:En}{K:U->Option ρ}{r:ρ}(h:S.bin cst c op x y K=some r):∃u,(S.fg R).bin c op (x.fg R) (y.fg R)=some (U.fg u)/\K u=some r:=by
 unfold St.bin at h;split at h
 .split at h
  .exact AP9 h
  .cases h
 .split at h
  .exact zR h
  .cases h
 .split at h
  .obtain⟨b,h1,h2⟩:=AQ1 (R:=R) h;obtain⟨u,h3,h4⟩:=zR h2;rename_i l;exact⟨u,by show (match (S.fg R).Rr (AP.fg R l) with|some b=>iV op b|none=>none)=_;rw[h1];exact h3,h4⟩
  .cases h
 .split at h
  .split at h
   .rename_i as' bs' h1 h2;split at h
    .rename_i b hb;obtain⟨u,h3,h4⟩:=zR h;refine⟨u,?_,h4⟩;simp only[En.fg,Lv.St.bin,qg h1,qg h2,AF1 hb,h3]
    .cases h
   .cases h
  .cases h
theorem ATP{op:UnOp}{x:U}{K:U->Option ρ}{r:ρ}(h:unU op x K=some r):∃u,unT op x.fg=some (U.fg u)/\K u=some r:=by
 unfold unU at h;split at h
 .cases op<;>simp only at h<;>first|cases h;done|exact⟨_,rfl,h⟩
 .cases op<;>simp only at h<;>first|cases h;done|(split at h;cases h;exact⟨_,rfl,h⟩)
 .cases h
theorem ANf(k:IntKind)(n:Int):(mkInt k n).fg=.int k (k.wrap n):=by cases k<;>simp only[mkInt,APh]<;>rfl
theorem AHX:∀(n:Nat) (x:tD n),Qy (.st n)=true->(ATe n x).all flat=true|0,x,_=>rfl|1,x,h=>absurd h (by decide)|2,x,_=>rfl|3,x,_=>rfl|4,x,_=>rfl|5,x,_=>rfl|6,x,h=>absurd h (by decide)|7,x,h=>absurd h (by decide)|8,x,h=>absurd h (by decide)|9,x,_=>rfl|10,x,_=>rfl|11,x,h=>absurd h (by decide)|12,x,h=>absurd h (by decide)|13,x,h=>absurd h (by decide)|14,x,h=>absurd h (by decide)|15,x,_=>rfl|16,x,h=>absurd h (by decide)|17,x,h=>absurd h (by decide)|_+18,x,_=>rfl
theorem AHW{c:C}(h:Qy c=true)(x:c.D):(enc c x).all flat=true:=by
 cases c with
 |l c=>cases h
 |m=>cases h
 |st n=>exact AHX n x h|un n=>cases h
 |_=>rfl
theorem HC{c:C}(h:Qy c=true)(xs:List c.D):FK (xs.map (enc c))=true:=by
 grind[FK,List.all_map,List.all_eq_true,AHW]
theorem ARR{c:C}{fl:Bool}{S S':St}{l:AP}{ys:List c.D}(h:ML c fl S l=some (S',ys)):Lv.ML c.size fl (S.fg R) (AP.fg R l)=some (S'.fg R,ys.map (enc c))/\BE S S':=by
 unfold ML at h;split at h
 .rename_i s;split at h
  .rename_i xs hx;cases h;have hc:C.u=c:=by
    simp only[Rw.as]at hx;split at hx
    .rename_i hc;exact hc
    .cases hx
   subst hc;have:=YN hx;simp only[AP.fg,U.fg,Lv.ML,C.size,if_true,<-this,Rw.fg];exact⟨rfl,BE.refl _⟩
  .cases h
 .cases h;exact⟨rfl,BE.refl _⟩
 .rename_i s c' xs;split at h
  .rename_i hf;split at h
   .rename_i ys' hx;cases h;have hc:c'=c:=by
     simp only[Rw.as]at hx;split at hx
     .rename_i hc;exact hc
     .cases hx
    subst hc;have:=YN hx;simp only[AP.fg,Lv.ML,HC hf,and_self,if_true,<-this,Rw.fg];exact⟨trivial,BE.refl _⟩
   .cases h
  .cases h
 .rename_i q sub;simp only[AP.fg,Lv.ML,Ic];split at h
  .rename_i x hx;rw[hx];split at h
   .rename_i w hw;split at h
    .rename_i ys' hy;have he:eOf c.size x.fg=true:=by
      cases x<;>simp[content]at hw<;>subst hw<;>simp only[U.fg,eOf];simp only[Rw.sub,Rw.as]at hy;split at hy
      .rename_i hc;subst hc;simp
      .cases hy
     have hyy:=YN hy;rw[APW]at hyy;simp only[Ab,AP.fg,RP hw,he,if_true,hyy];cases fl with
     |true=>
      simp only[if_true]at h ⊢;split at h
      .rename_i hf;cases h;rw[if_pos (HC hf _)];exact⟨rfl,BE.refl _⟩
      .cases h
     |false=>
      simp only[A4,if_false]at h ⊢;cases h;rw[Wd];exact⟨rfl,BE.out _ _⟩
    .cases h
   .cases h
  .cases h
 .cases h
theorem ALY{e:Option (Nat×Nat)}{x:Option ρ}{r:ρ}(h:gdo e x=some r):(∀a b,e=some (a,b)->a=b)/\x=some r:=by
 cases e with
 |none=>exact⟨by intros;contradiction,h⟩
 |some p=>
  obtain⟨a,b⟩:=p;obtain⟨h1,h2⟩:=Mz h
  grind
theorem rR{c:C}{S S':St}{l:AP}{b:U}{n:Nat}{e:Option (Nat×Nat)}(h:Oc c S l=some (S',b,n,e))(he:∀a b,e=some (a,b)->a=b):Lv.Oc c.size (S.fg R) (AP.fg R l)=some (S'.fg R,b.fg,n)/\BE S S':=by
 unfold Oc at h;split at h
 .cases h;exact⟨rfl,BE.refl _⟩
 .rename_i q sub;simp only[AP.fg,Lv.Oc,Ic];split at h
  .rename_i x hx;rw[hx];split at h
   .rename_i w hw;split at h
    .rename_i ys hy;cases h;have heo:eOf c.size x.fg=true:=by
      cases x<;>simp[content]at hw<;>subst hw<;>simp only[U.fg,eOf];simp only[Rw.as]at hy;split at hy
      .rename_i hc;subst hc;simp
      .cases hy
     have hyy:=YN hy;have hte:toEnd sub (ys.map (enc c)).length=true:=by
      cases sub with
      |none=>rfl|some p=>
       obtain⟨lo,m⟩:=p;have:=he _ _ rfl;simp[toEnd,this]
     simp only[Ab,AP.fg,RP hw,hyy];rw[if_pos ⟨heo,hte⟩,Wd,U1];refine⟨?_,BE.out _ _⟩;rw[qZ,<-Ws,An]
    .cases h
   .cases h
  .cases h
 .rename_i q i j c' xs;split at h
  .rename_i hc;subst hc;split at h
   .rename_i S1 h1;cases h;obtain⟨h2,h3⟩:=AGX (R:=R) h1;simp only[AP.fg,Lv.Oc,if_true,h2,U.fg,An];exact⟨trivial,h3⟩
   .cases h
  .cases h
 .cases h
theorem ADP{c:C}{b u:U}{ys:List c.D}(h:AP1 c b ys=some u):u.fg=AG3 c.size b.fg (ys.map (enc c)):=by
 unfold AP1 at h;split at h
 .grind[U.fg,AG3]
 .rename_i hn;cases h;cases b<;>simp only[U.fg,AG3];exact(hn _ _ rfl).elim
end
end Y
end Lv
namespace Lv
open Go (IntKind BinOp UnOp)
theorem LD{α β:Type}(f:α->β):∀(cs ls:List α) (o:Nat),C6 (ls.map f) o (cs.map f)=(C6 ls o cs).map f
 | [],ls,o=>by cases ls<;>rfl
 |c::cs,ls,o=>by
  simp only[AI,C6];rw[<-Fz,LD f cs]
theorem gJ{α:Type}(t:α):∀(cs ls:List α) (o b:Nat),o<=b->b<o+cs.length->C6 (ls.set b t) o cs=C6 ls o cs
 | [],ls,o,b,h1,h2=>by simp at h2;omega|c::cs,ls,o,b,h1,h2=>by
  simp only[C6];by_cases h:b=o
  .subst h;rw[List.set_set]
  .rw[List.set_comm _ _ h];exact gJ t cs _ _ _ (by omega) (by simp at h2;omega)
namespace Y
section
variable{R:List GF}{ρ:Type}
theorem lK(r:Bo)(i:Nat):∀(j:Nat) (us:List U),(Hf r i j us).map (AP.fg R)=Lv.Hf r i j (us.map U.fg)|_,[]=>rfl|j,u::us=>by simp only[Hf,AI,Lv.Hf,lL,lK r i (j+1) us]
theorem mV{c:C}{xs:List c.D}{i:Int}{x:c.D}(h:at? xs i=some x):(xs.map (enc c))[i.toNat]?=some (enc c x):=ASH (enc c) h
theorem N9{S:St}{n:Nat}{l:AP}{K:List AP->Option ρ}{r:ρ}(h:S.load n l K=some r):∃ls,(S.fg R).load n (AP.fg R l)=some (ls.map (AP.fg R))/\K ls=some r:=by
 unfold St.load at h;split at h
 .grind[AP.fg,Lv.St.load,Mx,List.length_map,ADN,List.map_take,List.map_drop]
 .rename_i q i j;simp only[AP.fg,Lv.St.load,Ic];split at h
  .rename_i c xs hx;rw[hx];obtain⟨x,h1,h⟩:=SX h;split at h
   .rename_i hc;refine⟨_,?_,h⟩;have h2:=mV h1;simp only[Ab,AP.fg,U.fg,h2,EX,An,hc,if_true,lK,CF,B2]
   .cases h
  .cases h
 .rename_i s cs;split at h
  .rename_i hc;refine⟨_,?_,h⟩;simp only[AP.fg,Lv.St.load,An,hc,if_true,AB];rw[<-CF,DG,DG];congr 1;funext u;exact(lL _ _).symm
  .cases h
 .cases h
theorem P1:∀ls:List AP,Lv.GR (ls.map (AP.fg R))=GR ls
 | []=>rfl|l::ls=>by
  have ih:=P1 ls;cases l with
  |t x=>cases x<;>first|rfl|exact ih
  |und=>rfl|_=>exact ih
theorem fR(b o n:Nat)(l:AP):Lv.GX b o n (AP.fg R l)=GX b o n l:=by
 grind[Lv.GX,GX,Ix,NZ,Nat.ble,Nat.le_of_ble_eq_true,decide_eq_false_iff_not,Nat.ble_eq_true_of_le,Nat.blt]
def yp:List T->List (Nat×Nat)->List T|row,[]=>row|row,(_,b)::hs=>yp (row.set b .top) hs
theorem yr:∀(hs:List (Nat×Nat)) (row:List T),(yp row hs).length=row.length| [],row=>rfl|(a,b)::hs,row=>by simp only[yp,yr hs,List.length_set]
theorem WD(i:Nat):∀(hs:List (Nat×Nat)) (X:List (List T)) (k:Nat),(∀p∈hs,p.1=i)->(KD X hs)[k]?=if k=i then (X[i]?).map (fun row=>yp row hs) else X[k]?
 | [],X,k,h=>by
  grind[KD,yp]
 |(a,b)::hs,X,k,h=>by
  have ha:a=i:=h (a,b) (by simp);subst ha;simp only[KD];rw[WD a hs _ k (fun p hp=>h p (by simp[hp]))];simp only[Ur,if_true];split
  .cases X[a]? <;> rfl
  .rfl
theorem Xb(j:Nat)(ts:List T):∀(hs:List (Nat×Nat)) (row:List T),(∀p∈hs,j<=p.2/\p.2<j+ts.length)->C6 (yp row hs) j ts=C6 row j ts
 | [],row,h=>rfl|(a,b)::hs,row,h=>by
  simp only[yp];rw[Xb j ts hs _ (fun p hp=>h p (by simp[hp]))];have:=h (a,b) (by simp);exact gJ _ _ _ _ _ this.1 this.2
theorem eE{i j n:Nat}:∀{hs:List (Nat×Nat)},L0 i j n hs->(∀p∈hs,p.1=i)/\(∀p∈hs,j<=p.2/\p.2<j+n)
 | [],_=>⟨by simp,by simp⟩|(a,b)::hs,h=>by
  obtain⟨h1,h2,h3⟩:=h;obtain⟨h4,h5⟩:=eE h3
  grind
theorem APZ{n:Nat}{ls:List AP}{S S':St}{ls':List AP}(h:U3 n S ls=some (S',ls')):Lv.U3 n (S.fg R) (ls.map (AP.fg R))=some (S'.fg R,ls'.map (AP.fg R))/\BE S S':=by
 grind[U3,Lv.U3,Nat.blt_eq,NO,BE.refl]
theorem AJZ{S:St}{n:Nat}{p:AP}{cs:List AP}{K:St->Option ρ}{r:ρ}(h:S.OV n p cs K=some r) :
 ∃S',(S.fg R).OV n (AP.fg R p) (cs.map (AP.fg R))=some (S'.fg R)/\BE S S'/\K S'=some r:=by
 unfold St.OV at h;split at h
 .rename_i id o;split at h
  .rename_i S1 cs' h1;obtain⟨h2,h3⟩:=APZ (R:=R) h1;split at h
   .cases h
   .rename_i ht;dsimp only at h;split at h
    .rename_i ls hl;split at h
     .rename_i hlen;refine⟨_,?_,(h3.trans (BE.kill _ _)).trans (BE.LJ _ _ _),h⟩;simp only[AP.fg,Lv.St.OV,h2,P1,ht,A4,if_false,An];rw[Ip (fR id o cs'.length),Mx,hl];simp only[Ab,An,hlen,if_true];rw[QP,Jh (fR id o cs'.length),LD]
     .cases h
    .cases h
  .cases h
 .rename_i q i j;split at h
  .rename_i S1 us h1;obtain⟨h2,h3⟩:=JO (R:=R) h1;simp only[AP.fg,Lv.St.OV,h2,Ic];split at h
   .rename_i c xs hx;rw[hx];obtain⟨x,h4,h⟩:=SX h;split at h
    .rename_i hlen;split at h
     .rename_i x' hx';refine⟨_,?_,(h3.trans (BE.BT _ _ _)).trans (BE.kill _ _),h⟩;have h5:=mV h4;simp only[Ab,AP.fg,U.fg,h5,EX,An,hlen,if_true,AB];rw[<-Ip (OG q),Fj];congr 2;simp only[AP.fg,U.fg];rw[Fz,Gy hx',LD]
     .cases h
    .cases h
   .rename_i c xs hs hx;rw[hx];obtain⟨x,h4,h⟩:=SX h;split at h
    .rename_i hlen;split at h
     .rename_i x' hx';obtain⟨hh,h⟩:=@Mz _ _ (Xz i.toNat j us.length hs) _ _ h;obtain⟨hr,hcol⟩:=eE hh;refine⟨_,?_,(h3.trans (BE.BT _ _ _)).trans (BE.kill _ _),h⟩;have h5:=mV h4;have h6:=WD i.toNat hs (xs.map (enc c)) i.toNat hr;rw[if_pos rfl,h5]at h6;simp only[Ab]at h6;simp only[Ab,AP.fg,h6,yr,LV];have hl2:j+(us.map U.fg).length<=c.size:=by rw[An,<-VM c x];exact hlen
      rw[if_pos hl2,<-Ip (OG q),Fj];congr 3;simp only[AP.fg,U.fg];have h7:C6 (yp (enc c x) hs) j (us.map U.fg)=enc c x':=by
       rw[Xb _ _ _ _ (by rw[An];exact hcol),Gy hx',EX,LD]
      rw[h7];congr 1;congr 1;apply Eb;intro k;have hlt:i.toNat<xs.length:=(MT h4).2.2.1;have hlt2:i.toNat<(KD (xs.map (enc c)) hs).length:=(AN.1 h6).1;rw[DE,Ap,DE];by_cases hk:i.toNat=k
      .subst hk;simp only[if_true,hlt,hlt2,Ab]
      .rw[if_neg hk,if_neg hk,WD i.toNat hs _ k hr,if_neg (fun h=>hk h.symm),Ap]
     .cases h
    .cases h
   .cases h
  .cases h
 .cases h
def erP(R:List GF)(p:Nat×Nat×YO):Nat×Nat×Opd:=(p.1,p.2.1,p.2.2.er R)
theorem jI{S:St}:∀{ps:List (Nat×Nat×YO)} {ls ls':List AP},Jq S ls ps=some ls'->Lv.Jq (S.fg R) (ls.map (AP.fg R)) (ps.map (erP R))=some (ls'.map (AP.fg R))
 | [],ls,ls',h=>by cases h;rfl
 |(o,n,x)::ps,ls,ls',h=>by
  simp only[Jq]at h;split at h
  .rename_i e he;split at h
   .rename_i hc;have:=jI (ps:=ps) h;simp only[AI,erP,Lv.Jq,I6 he,En.fg,An,P1];rw[if_pos hc,LD];exact this
   .cases h
  .cases h
def erQ(R:List GF)(p:Nat×YO):Nat×Opd:=(p.1,p.2.er R)
theorem AKC{c:C}{n:Nat}:∀{ps:List (Nat×YO)} {S S':St} {xs xs':List c.D},bsK c n S xs ps=some (S',xs') ->
 Lv.bsK c.size n (S.fg R) (xs.map (enc c)) (ps.map (erQ R))=some (S'.fg R,xs'.map (enc c))/\BE S S'
 | [],S,S',xs,xs',h=>by cases h;exact⟨rfl,BE.refl _⟩
 |(i,x)::ps,S,S',xs,xs',h=>by
  simp only[bsK]at h;split at h
  .rename_i e he;split at h
   .rename_i hc;split at h
    .rename_i S1 us h1;obtain⟨h2,h3⟩:=JO (R:=R) h1;split at h
     .rename_i y hy;obtain⟨h4,h5⟩:=AKC (ps:=ps) h;simp only[AI,erQ,Lv.bsK,I6 he,En.fg,An];rw[if_pos hc,h2];dsimp only;rw[<-Gy hy,<-Fz];exact⟨h4,h3.trans h5⟩
     .cases h
    .cases h
   .cases h
  .cases h
theorem AKD{c:C}{n:Nat}{z:List T}:∀{ps:List (Nat×YO)} {S S':St} {ys:List c.D} (pre:List (List T)),bsL c n S ps=some (S',ys)->xW pre.length n ps=true->pre.length<=n ->
 Lv.bsK c.size n (S.fg R) (pre++List.replicate (n-pre.length) z) (ps.map (erQ R))=some (S'.fg R,pre++ys.map (enc c))/\BE S S'
 | [],S,S',ys,pre,h,ho,hn=>by
  cases h;simp only[xW,beq_iff_eq]at ho;simp only[BC,Lv.bsK,ho,DI,List.replicate_zero];exact⟨trivial,BE.refl _⟩
 |(i,x)::ps,S,S',ys,pre,h,ho,hn=>by
  simp only[xW,AD,beq_iff_eq]at ho;obtain⟨rfl,ho⟩:=ho;simp only[bsL]at h;split at h
  .rename_i e he;split at h
   .rename_i hc;split at h
    .rename_i S1 us h1;obtain⟨h2,h3⟩:=JO (R:=R) h1;split at h
     .rename_i y S2 ys' hy h6;cases h;have hl:(pre++[enc c y]).length=pre.length+1:=by simp
      obtain⟨h4,h5⟩:=AKD (z:=z) (ps:=ps) (pre++[enc c y]) h6 (by rw[hl];exact ho) (by rw[hl];omega);simp only[AI,erQ,Lv.bsK,I6 he,En.fg,An];rw[if_pos hc,h2];dsimp only;rw[<-Gy hy];have hs:(pre++List.replicate (n-pre.length) z).set pre.length (enc c y)=(pre++[enc c y])++List.replicate (n-(pre++[enc c y]).length) z:=by
       rw[List.set_append_right _ _ (A2 _),DI,hl];have:n-pre.length=(n-(pre.length+1))+1:=by omega
       rw[this,List.replicate_succ];simp
      rw[hs];refine⟨?_,h3.trans h5⟩;simpa[erQ] using h4
     .cases h
    .cases h
   .cases h
  .cases h
theorem K6{S:St}{len:Nat}{lo hi:Option YO}{K:Nat->Nat->Option ρ}{r:ρ}(h:range S len lo hi K=some r) :
 ∃a b,(S.fg R).range len (lo.map (YO.er R)) (hi.map (YO.er R))=some (a,b)/\K a b=some r/\∀{α:Type} (xs:List α),xs.length=len->part lo hi xs a b=(xs.drop a).take (b-a):=by
 unfold range at h
 grind[part,Lv.St.range,Lv.St.ANg,Mz,Pf,List.take_of_length_le]
theorem UH:∀(hs:List (Nat×Nat)) (X:List (List T)),(KD X hs).length=X.length| [],_=>rfl|(i,j)::hs,X=>by rw[KD,UH hs];simp[HI]
theorem QW{S:St}{c:C}{l:AP}(h:S.wide c l=true)(hl:(∃s c' xs,l=.vw s c' xs)\/(∃q sub,l=.al q sub)\/l=.t .nil):(S.fg R).wide c.size (AP.fg R l)=true:=by
 rcases hl with ⟨s,c',xs,rfl⟩|⟨q,sub,rfl⟩|rfl
 .simp only[St.wide,decide_eq_true_eq]at h;subst h;simp[AP.fg,Lv.St.wide]
 .simp only[St.wide]at h;simp only[AP.fg,Lv.St.wide,Ic];split at h
  .rename_i x hx;rw[hx];simp only[Ab,AP.fg];cases x<;>simp only[U.fg,eOf];simp only[decide_eq_true_eq]at h;subst h;simp
  .grind[AP.fg,eOf]
  .cases h
 .rfl
theorem AHt{off:Nat}{p q:AP}(h:J4 off p=some q):Lv.J4 off (AP.fg R p)=some (AP.fg R q):=by
 cases p<;>simp only[J4]at h<;>first
  |cases h;done
  |(cases h;simp only[AP.fg,Lv.J4,B2])
theorem ANP(p:AP):Lv.St.Oj (AP.fg R p)=Oj p:=by cases p<;>rfl
theorem ASQ{l:AP}{c:Cap}(h:l.ASO=some c):c.fg=AP.fg R l/\(AP.fg R l).plain=true:=by
 unfold AP.ASO at h;split at h<;>first|cases h;done|(cases h;exact⟨rfl,rfl⟩)
theorem jD:∀{es:List En} {cs:List Cap},mR es=some cs->((es.map (En.fg R)).all fun e=>Lv.xX e.sh&&e.cs.length==1&&e.cs.all Lv.AP.plain)=true/\(es.map (En.fg R)).flatMap Lv.Ent.cs=cs.map Cap.fg
 | [],cs,h=>by cases h;exact⟨rfl,rfl⟩
 |e::es,cs,h=>by
  unfold mR at h;split at h
  .rename_i he;cases he
  .rename_i l es' he;cases he;split at h
   .rename_i c cs' h1 h2;cases h;obtain⟨h3,h4⟩:=jD h2;obtain⟨h5,h6⟩:=ASQ (R:=R) h1;constructor
    .rw[AI,List.all_cons,h3];simp[En.fg,Lv.xX,h6]
    .simp only[AI,List.flatMap_cons,h4,En.fg,BC,List.singleton_append,h5]
   .cases h
  .cases h
end
end Y
end Lv
namespace Lv
open Go (IntKind BinOp UnOp)
namespace Y
section
variable{R:List GF}{ρ:Type}
def zsC(c:C):List T:=match y5 c with|some z=>enc c z|none=>[]
theorem ADL{c:C}{z:c.D}(h:y5 c=some z):zsC c=enc c z:=by unfold zsC;rw[h]
def YOp.er:YOp R->XOp|.mv d x=>.mv d (x.er R)|.as d x=>.as d (x.er R)|.pick d c a b=>.pick d (c.er R) (a.er R) (b.er R)|.alloc d zs=>.alloc d (zs.map U.fg)|.box d x=>.box d (x.er R)|.build d zs ps=>.build d (zs.map U.fg) (ps.map (erP R))|.Bu d n c ps=>.Bu d n (zsC c) (ps.map (erQ R))|.ld d n x=>.ld d n (x.er R)|.st n x v=>.st n (x.er R) (v.er R)|.chk d x=>.chk d (x.er R)|.bin d c op x y=>.bin d c op (x.er R) (y.er R)|.un d op x=>.un d op (x.er R)|.cvI d k x=>.cvI d k (x.er R)|.RR d x=>.RR d (x.er R)|.O3 d x=>.O3 d (x.er R)|.K2 d n caps=>.K2 d (xr R n) (caps.map (YO.er R))|.KL d c n=>.KL d (zsC c) (n.er R) (n.er R)|.sub d c x lo hi=>.sub d c.size (x.er R) (lo.map (YO.er R)) (hi.map (YO.er R))|.SH d x lo hi=>.SH d (x.er R) (lo.map (YO.er R)) (hi.map (YO.er R))|.fa d off x=>.fa d off (x.er R)|.fld d off n x=>.fld d off n (x.er R)|.ia d c x i=>.ia d c.size (x.er R) (i.er R)|.ix d x i=>.ix d (x.er R) (i.er R)|.ext d x i=>.ext d (x.er R) i|.call d g _ _ args=>.call d g.x (args.map (YO.er R))|.Dg d x ms args=>.Dg d (x.er R) ms (args.map (YO.er R))|.len d x=>.len d (x.er R)|.lens d x=>.lens d (x.er R)|.app d c fl x y=>.app d c.size fl (x.er R) (y.er R)|.QY d c x n=>.QY d (zsC c) (x.er R) (n.er R)|.cpy d c x y=>.cpy d c.size (x.er R) (y.er R)|.mm d m x y=>.mm d m (x.er R) (y.er R)|.mmk d=>.mmk d|.Qn d x k=>.Qn d (x.er R) (k.er R)|.Pd x k v=>.Pd (x.er R) (k.er R) (v.er R)|.Qo d x=>.Qo d (x.er R)|.bad d=>.bad d|.drop ds=>.drop ds|.UU ns=>.UU (ns.map fun p=>(p.1,p.2.size))
def Plain(o:YOp R)(S:St)(K:St->Option ρ)(r:ρ):Prop:=∃S',Lv.ev o.er (S.fg R)=some (S'.fg R)/\BE S S'/\K S'=some r
theorem B8{o:YOp R}{S S1:St}{d:Nat}{sh:Sh}{cs:List AP}{K:St->Option ρ}{r:ρ}(h:Fw S1 d sh cs K=some r)(hk:BE S S1)(he:Lv.ev o.er (S.fg R)=(S1.fg R).DQ d ⟨sh,cs.map (AP.fg R)⟩):Plain o S K r:=by
 obtain⟨S',h1,h2,h3⟩:=YE (R:=R) h;exact⟨S',he.trans h1,hk.trans h2,h3⟩
variable{S:St}{K:St->Option ρ}{r:ρ}
theorem ANv{d:Nat}{x:YO}(h:ev (.mv d x:YOp R) S K=some r):Plain (.mv d x:YOp R) S K r:=by
 simp only[ev]at h;split at h
 .rename_i e he;exact B8 h (BE.refl _) (by simp only[YOp.er,Lv.ev,I6 he,En.fg])
 .cases h
theorem ANq{d:Nat}{x:YO}(h:ev (.as d x:YOp R) S K=some r):Plain (.as d x:YOp R) S K r:=by
 simp only[ev]at h;split at h
 .rename_i e he;split at h
  .rename_i S1 cs h1;obtain⟨h2,h3⟩:=NO (R:=R) h1;exact B8 h h3 (by simp only[YOp.er,Lv.ev,I6 he,En.fg,h2])
  .cases h
 .cases h
theorem pc{d:Nat}{c a b:YO}(h:ev (.pick d c a b:YOp R) S K=some r):Plain (.pick d c a b:YOp R) S K r:=by
 simp only[ev]at h;split at h
 .rename_i t ea eb h1 h2 h3;rcases ADS h with ⟨rfl,h'⟩|⟨rfl,h'⟩
  .exact B8 h' (BE.refl _) (by simp only[YOp.er,Lv.ev,Lg h1,I6 h2,I6 h3,U.fg,En.fg,if_true])
  .exact B8 h' (BE.refl _) (by simp only[YOp.er,Lv.ev,Lg h1,I6 h2,I6 h3,U.fg,En.fg,A4,if_false])
 .cases h
theorem fP{d:Nat}{zs:List U}(h:ev (.alloc d zs:YOp R) S K=some r):Plain (.alloc d zs:YOp R) S K r:=by
 simp only[ev]at h;obtain⟨S',h1,h2,h3⟩:=fE (R:=R) h;refine⟨S',?_,h2,h3⟩;rw[<-h1];simp only[YOp.er,Lv.ev,Lv.M9,DG];rfl
theorem ACc{d:Nat}{x:YO}(h:ev (.box d x:YOp R) S K=some r):Plain (.box d x:YOp R) S K r:=by
 simp only[ev]at h;split at h
 .rename_i e he;split at h
  .rename_i S1 cs h1;obtain⟨h2,h3⟩:=AQE (R:=R) h1;split at h
   .cases h
   .rename_i hc;obtain⟨S',h4,h5,h6⟩:=fE (R:=R) h;refine⟨S',?_,h3.trans h5,h6⟩;simp only[YOp.er,Lv.ev,I6 he,En.fg,h2,P1,An]
    grind[Jh,Lv.D9,Lv.Ei,Ua,UZ,Lv.M9]
  .cases h
 .cases h
theorem fQ{d:Nat}{zs:List U}{ps:List (Nat×Nat×YO)}(h:ev (.build d zs ps:YOp R) S K=some r):Plain (.build d zs ps:YOp R) S K r:=by
 simp only[ev]at h;split at h
 .rename_i ls hl;have:=jI (R:=R) hl;rw[DG]at this;refine B8 h (BE.refl _) ?_;simp only[YOp.er,Lv.ev,DG];rw[show (Lv.AP.t∘U.fg)=(AP.fg R∘AP.t) from rfl,this]
 .cases h
theorem Wa{d n:Nat}{c:C}{ps:List (Nat×YO)}(h:ev (.Bu d n c ps:YOp R) S K=some r):Plain (.Bu d n c ps:YOp R) S K r:=by
 simp only[ev]at h;split at h
 .rename_i z hz;split at h
  .rename_i hn;split at h
   .rename_i S1 xs hx;have hb:Lv.bsK c.size n (S.fg R) (rowsOf n (enc c z)) (ps.map (erQ R))=some (S1.fg R,xs.map (enc c))/\BE S S1:=by
     split at hx
     .rename_i ho;have:=AKD (R:=R) (z:=enc c z) [] hx ho (Nat.zero_le _);simpa[rowsOf] using this
     .have:=AKC (R:=R) hx;rw[FT]at this;exact this
    refine B8 h hb.2 ?_;simp only[YOp.er,Lv.ev,ADL hz,LV];rw[if_pos hn,hb.1];rfl
   .cases h
  .cases h
 .cases h
theorem ANu{d:Nat}{n:Option Nat}{x:YO}(h:ev (.ld d n x:YOp R) S K=some r):Plain (.ld d n x:YOp R) S K r:=by
 simp only[ev]at h;split at h
 .rename_i p hp;obtain⟨ls,h1,h⟩:=N9 (R:=R) h
  grind[B8,BE.refl,YOp.er,Lv.ev,EE]
 .cases h
theorem ANw{n:Nat}{x v:YO}(h:ev (.st n x v:YOp R) S K=some r):Plain (.st n x v:YOp R) S K r:=by
 simp only[ev]at h;split at h
 .rename_i p e hp he;split at h
  .rename_i hc;obtain⟨S',h1,h2,h3⟩:=AJZ (R:=R) h;refine⟨S',?_,h2,h3⟩;simp only[YOp.er,Lv.ev,EE hp,I6 he,En.fg,An];rw[if_pos hc,h1]
  .cases h
 .cases h
theorem ACd{d:Nat}{x:YO}(h:ev (.chk d x:YOp R) S K=some r):Plain (.chk d x:YOp R) S K r:=by
 simp only[ev]at h
 grind[B8,BE.refl,YOp.er,Lv.ev,EE,ANP]
theorem ACb{d:Nat}{c:Cls}{op:BinOp}{x y:YO}(h:ev (.bin d c op x y:YOp R) S K=some r):Plain (.bin d c op x y:YOp R) S K r:=by
 simp only[ev]at h;split at h
 .rename_i ex ey h1 h2;obtain⟨u,h3,h⟩:=ASK (R:=R) h;exact B8 h (BE.refl _) (by simp only[YOp.er,Lv.ev,I6 h1,I6 h2,h3];rfl)
 .cases h
theorem ANx{d:Nat}{op:UnOp}{x:YO}(h:ev (.un d op x:YOp R) S K=some r):Plain (.un d op x:YOp R) S K r:=by
 simp only[ev]at h;split at h
 .rename_i a h1;obtain⟨u,h3,h⟩:=ATP h;exact B8 h (BE.refl _) (by simp only[YOp.er,Lv.ev,Lg h1,h3];rfl)
 .cases h
theorem ACf{d:Nat}{k:IntKind}{x:YO}(h:ev (.cvI d k x:YOp R) S K=some r):Plain (.cvI d k x:YOp R) S K r:=by
 simp only[ev]at h
 grind[B8,BE.refl,YOp.er,Lv.ev,Pf,AP.fg,ANf]
theorem pU{d:Nat}{x:YO}(h:ev (.RR d x:YOp R) S K=some r):Plain (.RR d x:YOp R) S K r:=by
 simp only[ev]at h;split at h
 .rename_i s h1;exact B8 h (BE.refl _) (by simp only[YOp.er,Lv.ev,Lg h1,U.fg];rfl)
 .cases h
theorem pS{d:Nat}{x:YO}(h:ev (.O3 d x:YOp R) S K=some r):Plain (.O3 d x:YOp R) S K r:=by
 simp only[ev]at h;split at h
 .rename_i l h1;split at h
  .rename_i w hw;split at h
   .rename_i bs hb;have h2:=Mw (R:=R) hw;rw[YN hb]at h2;refine B8 h (BE.refl _) ?_;have h3:bytesOf (bs.map (enc .u))=some bs:=rU bs;simp only[YOp.er,Lv.ev,EE h1,h2,h3];rfl
   .cases h
  .cases h
 .cases h
theorem pX{d n:Nat}{caps:List YO}(h:ev (.K2 d n caps:YOp R) S K=some r):Plain (.K2 d n caps:YOp R) S K r:=by
 simp only[ev]at h;split at h
 .rename_i es he;split at h
  .rename_i cs hc;obtain⟨h1,h2⟩:=jD (R:=R) hc;refine B8 h (BE.refl _) ?_;simp only[YOp.er,Lv.ev,Wi he];rw[if_pos h1,h2];rfl
  .cases h
 .cases h
theorem pY{d:Nat}{c:C}{n:YO}(h:ev (.KL d c n:YOp R) S K=some r):Plain (.KL d c n:YOp R) S K r:=by
 simp only[ev]at h;split at h
 .grind[Mz,B8,BE.refl,YOp.er,Lv.ev,Pf,ADL,LV,rowsOf,AP.fg,U.fg,List.map_replicate]
 .cases h
theorem pd{d:Nat}{x:YO}{lo hi:Option YO}(h:ev (.SH d x lo hi:YOp R) S K=some r):Plain (.SH d x lo hi:YOp R) S K r:=by
 simp only[ev]at h;split at h
 .rename_i s hs;obtain⟨a,b,h1,h,h2⟩:=K6 (R:=R) h;rw[h2 s rfl]at h;exact B8 h (BE.refl _) (by simp only[YOp.er,Lv.ev,Lg hs,U.fg,h1];rfl)
 .cases h
theorem ALN{q:Bo}{sub:Option (Nat×Nat)}{w:Rw}{c:C}{xs:List c.D}(h:S.elems (.al q sub)=some w)(ha:w.as c=some xs):(S.fg R).elems (.al q sub)=some (xs.map (enc c)):=by
 have:=Mw (R:=R) h;rw[YN ha]at this;exact this
theorem ACk{d:Nat}{c:C}{x:YO}{lo hi:Option YO}(h:ev (.sub d c x lo hi:YOp R) S K=some r):Plain (.sub d c x lo hi:YOp R) S K r:=by
 simp only[ev]at h;split at h
 .rename_i l hl;split at h
  .rename_i hw;split at h
   .rename_i q sub;have hw':=QW (R:=R) hw (.inr (.inl ⟨_,_,rfl⟩));split at h
    .rename_i w he;split at h
     .rename_i xs hx;obtain⟨a,b,h1,h,_⟩:=K6 (R:=R) h;have h2:=ALN (R:=R) he hx;have h3:=EE (R:=R) hl;simp only[AP.fg]at hw' h3;refine B8 h (BE.refl _) ?_;simp only[YOp.er,Lv.ev,h3,hw',if_true,h2,An,h1];cases sub with|none=>rfl|some p=>rfl
     .cases h
    .cases h
   .rename_i s c' xs;have hw':=QW (R:=R) hw (.inl ⟨_,_,_,rfl⟩);obtain⟨a,b,h1,h,h2⟩:=K6 (R:=R) h;rw[h2 xs rfl]at h;have h3:=EE (R:=R) hl;simp only[AP.fg]at hw' h3;refine B8 h (BE.refl _) ?_;simp only[YOp.er,Lv.ev,h3,hw',if_true,Lv.St.elems,An,h1,AI,BC,AP.fg,CF,B2]
   .obtain⟨a,b,h1,h,_⟩:=K6 (R:=R) h;have hw':=QW (R:=R) hw (.inr (.inr rfl));have h3:=EE (R:=R) hl;simp only[AP.fg,U.fg]at hw' h3;refine B8 h (BE.refl _) ?_;simp only[YOp.er,Lv.ev,h3,hw',if_true,Lv.St.elems,Ad,h1,AI,BC,AP.fg,U.fg]
   .cases h
  .cases h
 .cases h
theorem ANr{d off:Nat}{x:YO}(h:ev (.fa d off x:YOp R) S K=some r):Plain (.fa d off x:YOp R) S K r:=by
 simp only[ev]at h;split at h
 .rename_i p hp;split at h
  .rename_i q hq;exact B8 h (BE.refl _) (by simp only[YOp.er,Lv.ev,EE hp,AHt hq];rfl)
  .cases h
 .cases h
theorem ACh{d off:Nat}{n:Option Nat}{x:YO}(h:ev (.fld d off n x:YOp R) S K=some r):Plain (.fld d off n x:YOp R) S K r:=by
 simp only[ev]at h;split at h
 .rename_i cs hr;split at h
  .rename_i hc;refine B8 h (BE.refl _) ?_;simp only[YOp.er,Lv.ev,I6 hr,En.fg,An,hc,if_true,CF,B2]
  .cases h
 .cases h
theorem ANs{d:Nat}{c:C}{x i:YO}(h:ev (.ia d c x i:YOp R) S K=some r):Plain (.ia d c x i:YOp R) S K r:=by
 simp only[ev]at h;split at h
 .rename_i l n hl hn;split at h
  .rename_i hw;split at h
   .rename_i q sub;have hw':=QW (R:=R) hw (.inr (.inl ⟨_,_,rfl⟩));split at h
    .rename_i c' xs he;obtain⟨y,hy,h⟩:=SX h;have h2:=Mw (R:=R) he;have h3:=EE (R:=R) hl;simp only[AP.fg]at hw' h3 h2;have hf:=MT hy;refine B8 h (BE.refl _) ?_;simp only[YOp.er,Lv.ev,h3,Pf hn,h2,Rw.fg,An];rw[if_pos ⟨hw',hf.1,hf.2.1⟩];cases sub with
     |none=>rfl|some p=>
      obtain⟨lo,m⟩:=p;simp only[AI,BC,AP.fg];congr 5;have:=hf.1;omega
    .split at h
     .split at h
      .rename_i c' xs hs hq;obtain⟨y,hy,h⟩:=SX h;have h3:=EE (R:=R) hl;simp only[AP.fg]at hw' h3;have hf:=MT hy;refine B8 h (BE.refl _) ?_;simp only[YOp.er,Lv.ev,h3,Pf hn,Lv.St.elems,Ic,hq,Ab,AP.fg,Lv.content,Lv.Hi,UH,An];rw[if_pos ⟨hw',hf.1,hf.2.1⟩];rfl
      .cases h
     .cases h
   .rename_i s c' xs;have hw':=QW (R:=R) hw (.inl ⟨_,_,_,rfl⟩);obtain⟨y,hy,h⟩:=SX h;have h3:=EE (R:=R) hl;simp only[AP.fg]at hw' h3;have hf:=MT hy;refine B8 h (BE.refl _) ?_;simp only[YOp.er,Lv.ev,h3,Pf hn,Lv.St.elems,An];rw[if_pos ⟨hw',hf.1,hf.2.1⟩];have h4:(xs.map (enc c')).getD n.toNat []=(cells c' y).map U.fg:=by
     rw[A6,mV hy,IQ,EX]
    rw[h4];rfl
   .cases h
  .cases h
 .cases h
theorem ANt{d:Nat}{x i:YO}(h:ev (.ix d x i:YOp R) S K=some r):Plain (.ix d x i:YOp R) S K r:=by
 simp only[ev]at h;split at h
 .rename_i s n hs hn;obtain⟨y,hy,h⟩:=SX h;have hf:=MT hy;refine B8 h (BE.refl _) ?_;simp only[YOp.er,Lv.ev,Lg hs,U.fg,Pf hn];rw[if_pos ⟨hf.1,hf.2.1⟩];have:s.getD n.toNat 0=y:=by rw[A6,hf.2.2.2.1,IQ]
  rw[this];rfl
 .cases h
theorem ACg{d:Nat}{x:YO}{i:Nat}(h:ev (.ext d x i:YOp R) S K=some r):Plain (.ext d x i:YOp R) S K r:=by
 simp only[ev]at h;split at h
 .rename_i s;split at h
  .rename_i ns cs v hg;split at h
   .rename_i n hn;split at h
    .rename_i hc;split at h
     .rename_i S1 ls h1;obtain⟨h2,h3⟩:=NO (R:=R) h1;refine B8 h h3 ?_;simp only[YOp.er,YO.er,Lv.ev,UA,hg,Ab,Ent.fg,hn,An,hc,if_true];rw[CF,B2,mQ]at h2;rw[h2]
     .cases h
    .cases h
   .cases h
  .cases h
 .cases h
theorem pV{d:Nat}{x:YO}(h:ev (.lens d x:YOp R) S K=some r):Plain (.lens d x:YOp R) S K r:=by
 simp only[ev]at h;split at h
 .rename_i s hs;exact B8 h (BE.refl _) (by simp only[YOp.er,Lv.ev,Lg hs,U.fg];rfl)
 .cases h
theorem ACi{d:Nat}{x:YO}(h:ev (.len d x:YOp R) S K=some r):Plain (.len d x:YOp R) S K r:=by
 simp only[ev]at h;split at h
 .rename_i l hl;split at h
  .rename_i c xs he;have h2:=Mw (R:=R) he;exact B8 h (BE.refl _) (by simp only[YOp.er,Lv.ev,EE hl,h2,Rw.fg,An];rfl)
  .rename_i he;have h2:=Mw (R:=R) he;exact B8 h (BE.refl _) (by simp only[YOp.er,Lv.ev,EE hl,h2,Rw.fg,Ad];rfl)
  .cases h
 .cases h
theorem ACa{d:Nat}{c:C}{fl:Bool}{x y:YO}(h:ev (.app d c fl x y:YOp R) S K=some r):Plain (.app d c fl x y:YOp R) S K r:=by
 simp only[ev]at h;split at h
 .rename_i lx ly hx hy;split at h
  .rename_i S1 ys h1;obtain⟨h2,h3⟩:=ARR (R:=R) h1;split at h
   .rename_i S2 b n e h4;obtain⟨he,h⟩:=ALY h;obtain⟨h5,h6⟩:=rR (R:=R) h4 he;obtain⟨h7,h⟩:=Mz h;split at h
    .rename_i u hu;refine B8 h (h3.trans h6) ?_;simp only[YOp.er,Lv.ev,EE hx,EE hy,h2,h5,An];rw[if_pos h7,<-ADP hu];rfl
    .cases h
   .cases h
  .cases h
 .cases h
theorem pR{d:Nat}{c:C}{x n:YO}(h:ev (.QY d c x n:YOp R) S K=some r):Plain (.QY d c x n:YOp R) S K r:=by
 simp only[ev]at h;split at h
 .rename_i lx k z hx hk hz;obtain⟨h1,h⟩:=Mz h;split at h
  .rename_i S2 b m e h4;obtain⟨he,h⟩:=ALY h;obtain⟨h5,h6⟩:=rR (R:=R) h4 he;obtain⟨h7,h⟩:=Mz h;split at h
   .rename_i u hu;refine B8 h h6 ?_;simp only[YOp.er,Lv.ev,EE hx,Pf hk,ADL hz,LV];rw[if_pos h1]
    try dsimp only
    rw[h5]
    try dsimp only
    rw[if_pos h7];have:=ADP hu;rw[FT]at this;simp only[rowsOf,<-this,AI,BC,AP.fg]
   .cases h
  .cases h
 .cases h
theorem ACe{d:Nat}{c:C}{x y:YO}(h:ev (.cpy d c x y:YOp R) S K=some r):Plain (.cpy d c x y:YOp R) S K r:=by
 simp only[ev]at h;split at h
 .rename_i q ly hx hy;split at h
  .rename_i c' xs0 w hat hw;split at h
   .rename_i ys xs hys hxs;split at h
    .rename_i hc;obtain⟨hne,h⟩:=Mz h;have hcc:c'=c:=by
      simp only[Rw.as]at hxs;split at hxs
      .rename_i hc;exact hc
      .cases hxs
     subst hcc;have hx0:xs0=xs:=by simp only[Rw.as]at hxs;simpa using hxs
     subst hx0;have h2:=Mw (R:=R) hw;rw[YN hys]at h2;have h3:=EE (R:=R) hx;simp only[AP.fg]at h3;have hwd:(S.fg R).wide c'.size (AP.fg R ly)=true:=by
      refine QW hc.1 ?_;unfold St.elems at hw;split at hw
      .exact .inr (.inl ⟨_,_,rfl⟩)
      .exact .inl ⟨_,_,_,rfl⟩
      .exact .inr (.inr rfl)
      .cases hw
     have hemp:(xs0.map (enc c')).isEmpty=false:=by cases xs0<;>simp_all
     have hy':=EE (R:=R) hy;generalize AP.fg R ly=L at hy' h2 hwd;refine B8 h ((BE.BT _ _ _).trans (BE.kill _ _)) ?_;simp only[YOp.er,Lv.ev,h3,hy',Ic,hat,Ab,AP.fg,U.fg,h2];rw[if_pos ⟨trivial,hwd,HC hc.2 _,HC hc.2 _,hemp⟩,<-Ip (OG q),Fj];simp only[AP.fg,U.fg,CO,CF,B2,An,AI,BC]
    .cases h
   .cases h
  .cases h
 .cases h
theorem AGU{d:Nat}{m:Bool}{x y:YO}(h:ev (.mm d m x y:YOp R) S K=some r):Plain (.mm d m x y:YOp R) S K r:=by
 simp only[ev]at h;split at h
 .rename_i k a k' b h1 h2;split at h
  .rename_i hk;exact B8 h (BE.refl _) (by simp only[YOp.er,Lv.ev,Lg h1,Lg h2,U.fg];rw[if_pos hk];rfl)
  .cases h
 .cases h
theorem fB{x:YO}{q:Bo}{ks:List (Int×Int)}(h:S.M6 x=some (q,ks)):(S.fg R).M6 (x.er R)=some (q,ks):=by
 unfold St.M6 at h;split at h
 .rename_i r0 h1;split at h
  .rename_i ks0 h2;cases h;have:=EE (R:=R) h1
   grind[AP.fg,Lv.St.M6,Ic,U.fg]
  .cases h
 .cases h
theorem ACj{d:Nat}(h:ev (.mmk d:YOp R) S K=some r):Plain (.mmk d:YOp R) S K r:=by
 simp only[ev]at h;exact B8 h (BE.refl _) (by simp only[YOp.er,Lv.ev];rfl)
theorem pW{d:Nat}{x k:YO}(h:ev (.Qn d x k:YOp R) S K=some r):Plain (.Qn d x k:YOp R) S K r:=by
 simp only[ev]at h;split at h
 .rename_i q ks n h1 h2;exact B8 h (BE.refl _) (by simp only[YOp.er,Lv.ev,fB h1,Lg h2,U.fg];rfl)
 .cases h
theorem pZ{d:Nat}{x:YO}(h:ev (.Qo d x:YOp R) S K=some r):Plain (.Qo d x:YOp R) S K r:=by
 simp only[ev]at h;split at h
 .rename_i q ks h1;exact B8 h (BE.refl _) (by simp only[YOp.er,Lv.ev,fB h1];rfl)
 .cases h
theorem pb{x k v:YO}(h:ev (.Pd x k v:YOp R) S K=some r):Plain (.Pd x k v:YOp R) S K r:=by
 simp only[ev]at h;split at h
 .rename_i q ks n m h1 h2 h3;refine⟨_,?_,(BE.BT _ _ _).trans (BE.kill _ _),h⟩;simp only[YOp.er,Lv.ev,fB h1,Lg h2,Lg h3,U.fg];rw[<-Ip (OG q),Fj];rfl
 .cases h
theorem AF3{o:YOp R}(h:ev o S K=some r):∃S',BE S S'/\K S'=some r/\∀N:Lv.St->Prop,N (S'.fg R)->opK Hb o.er (S.fg R) N:=by
 have pl:Plain o S K r->∃S',BE S S'/\K S'=some r/\∀N:Lv.St->Prop,N (S'.fg R)->opK Hb o.er (S.fg R) N:=fun ⟨S',h1,h2,h3⟩=>⟨S',h2,h3,fun N hN=>.inl ⟨_,h1,hN⟩⟩
 cases o with
 |mv=>exact pl (ANv h)|as=>exact pl (ANq h)|pick=>exact pl (pc h)|alloc=>exact pl (fP h)|box=>exact pl (ACc h)|build=>exact pl (fQ h)|Bu=>exact pl (Wa h)|ld=>exact pl (ANu h)|st=>exact pl (ANw h)|chk=>exact pl (ACd h)|bin=>exact pl (ACb h)|un=>exact pl (ANx h)|cvI=>exact pl (ACf h)|RR=>exact pl (pU h)|O3=>exact pl (pS h)|K2=>exact pl (pX h)|KL=>exact pl (pY h)|sub=>exact pl (ACk h)|SH=>exact pl (pd h)|fa=>exact pl (ANr h)|fld=>exact pl (ACh h)|ia=>exact pl (ANs h)|ix=>exact pl (ANt h)|ext=>exact pl (ACg h)|len=>exact pl (ACi h)|lens=>exact pl (pV h)|app=>exact pl (ACa h)|QY=>exact pl (pR h)|cpy=>exact pl (ACe h)|mm=>exact pl (AGU h)|mmk=>exact pl (ACj h)|Qn=>exact pl (pW h)|Pd=>exact pl (pb h)|Qo=>exact pl (pZ h)|bad=>simp[ev]at h|drop ds=>exact pl ⟨_,by simp only[YOp.er,Lv.ev,w4],BE.Gg _ _,h⟩|UU ns=>exact pl ⟨_,by simp only[YOp.er,Lv.ev,pA],BE.OE _ _,h⟩|call d g fs hf args=>
  simp only[ev]at h;split at h
  .rename_i es he;obtain⟨S1,vs,cs,outs,S',h1,h2,h3,h4,h5⟩:=ra (Al.of hf) h;refine⟨S',h4,h5,fun N hN=>.inr ⟨d,g.x,es.map (En.fg R),S1,vs,_,cs,outs,_,?_,h1,h2,h3,hN⟩⟩;simp only[YOp.er,Lv.Ek,Wi he]
  .cases h
 |Dg d x ms args=>
  simp only[ev]at h;split at h
  .rename_i n caps es h0 he;split at h
   .rename_i g hg;split at h
    .rename_i hm;obtain⟨S1,vs,cs,outs,S',h1,h2,h3,h4,h5⟩:=ra (Al.nil _) h;refine⟨S',h4,h5,fun N hN=>.inr ⟨d,g.x,_,S1,vs,_,cs,outs,_,?_,h1,h2,h3,hN⟩⟩;have hx:xr R n=g.x:=by unfold xr;rw[hg]
     simp only[YOp.er,Lv.Ek,EE h0,Wi he,AP.fg,hx];rw[if_pos (by rw[g.ms,hm])];simp only[CO,DG,AB,Prod.mk.injEq,true_and,List.append_cancel_left_eq];apply List.map_congr_left;intro c _;simp only[Function.comp,En.fg,AI,BC,W4]
    .cases h
   .cases h
  .cases h
end
end Y
end Lv
namespace Lv
open Go (IntKind BinOp UnOp)
namespace Y
section
variable{R:List GF}{ρ:Type}
def BS.er:BS R->Oo|.nil=>.nil|.op i g sf o rest=>.op i g sf o.er rest.er|.dr ds rest=>.dr ds rest.er|.nl ns rest=>.nl (ns.map fun p=>(p.1,p.2.size)) rest.er|.both _ a b=>.both a.er b.er
def FM.er:FM R->Kc|.skip=>.skip|.region ops _=>.region (ops.map fun p=>(p.1,p.2.er)) []|.Vm r _=>.Vm r.er []|.seq a b=>.seq a.er b.er|.join _ a b=>.seq a.er b.er|.cond c _ _ t e=>.cond c [] [] t.er e.er|.block id b=>.block id b.er|.loop _ b=>.loop b.er|.exit id=>.exit id|.ret=>.ret|.scope b=>.scope b.er|.or a b=>.or a.er b.er|.dead=>.dead|.AQ6 _ b=>.loop b.er
theorem ASi(o:YOp R):o.er.cS=o.cS:=by cases o<;>rfl
theorem gN{o:YOp R}{S:St}{K:St->Option ρ}{r:ρ}(h:Jl o S K=some r):∃S',Lv.Jl o.er (S.fg R)=some (S'.fg R)/\BE S S'/\K S'=some r:=by
 unfold Jl at h;unfold Lv.Jl;rw[ASi];split at h
 .rename_i d hd;obtain⟨S',h1,h2,h3⟩:=YE (R:=R) h;rw[hd];exact⟨S',h1,h2,h3⟩
 grind[BE.refl]
theorem APD{s:Nat}{e x:Ent}:∀{l:List (Nat×Ent)},get l s=some x->e.fg R=x.fg R->fgE R (reE s e l)=fgE R l
 | [],h,_=>rfl|(k,y)::l,h,he=>by
  simp only[get]at h;simp only[reE];cases hb:Nat.beq k s with
  |true=>rw[hb]at h;cases h;simp only[fgE,AI,he]
  |false=>
   rw[hb]at h;have:=APD (l:=l) h he
   grind[fgE]
theorem AF7{s:Nat}{e:Ent}:∀{l:List (Nat×Ent)} {k:Nat} {y:Ent},get (reE s e l) k=some y->y=e\/get l k=some y
 | [],k,y,h=>.inr h|(j,x)::l,k,y,h=>by
  simp only[reE]at h;cases hb:Nat.beq j s with
  |true=>
   grind[get,Nat.beq]
  |false=>
   rw[hb]at h;simp only[get]at h ⊢;cases hk:Nat.beq j k with
   |true=>rw[hk]at h;exact .inr h|false=>rw[hk]at h;exact AF7 h
theorem ASy{S:St}{s:Nat}{b:Bool}{v:Nat}(h:get S.tm s=some ⟨.one,[.t (.bool b)],v⟩):(S.lit s b).fg R=S.fg R/\BE S (S.lit s b):=by
 refine⟨?_,by simp[St.lit],fun k e he hv=>?_,fun _ _ h _=>h,rfl⟩
 .simp only[St.fg,St.lit];have:=APD (R:=R) (e:=⟨.one,[.t (.bool b)],S.nv⟩) h rfl;rw[this]
 .rcases AF7 he with rfl|h1
  .grind
  .exact h1
def Gd(R:List GF)(g:Option (Nat×Bool))(o:YOp R)(S:Lv.St)(N:Lv.St->Prop):Prop:=
 ∃b,Lv.wanted S g=some b/\((b=true/\opK Hb o.er S N)\/(b=false/\∃S',Lv.Jl o.er S=some S'/\N S'))
theorem mM{S:St}{s:Nat}{w b:Bool}{v:Nat}(h:get S.tm s=some ⟨.one,[.t (.bool b)],v⟩):Lv.wanted (S.fg R) (some (s,w))=some (b==w):=by
 simp only[Lv.wanted,UA,h];rfl
theorem yz{S:St}{s:Nat}{w:Bool}{v:Nat}(h:get S.tm s=some ⟨.one,[.und],v⟩):Lv.wanted (S.fg R) (some (s,w))=some false:=by
 simp only[Lv.wanted,UA,h];rfl
theorem P2{S:St}{s:Nat}{w b:Bool}{v:Nat}{o:YOp R}{f:Option ρ}{K:St->Option ρ}{r:ρ}{P:Lv.St->(Lv.St->Prop)->Prop}(hg:get S.tm s=some ⟨.one,[.t (.bool b)],v⟩)(x:Bool)(hx:x=(b==w))
 (h:fT x o (S.lit s b) f K=some r) (hf:f=some r->∃S',BE (S.lit s b) S'/\K S'=some r/\∀N:Lv.St->Prop,N (S'.fg R)->P ((S.lit s b).fg R) N) :
 ∃S',BE S S'/\K S'=some r/\∀N:Lv.St->Prop,N (S'.fg R)->∃b,Lv.wanted (S.fg R) (some (s,w))=some b/\((b=true/\P (S.fg R) N)\/(b=false/\∃S',Lv.Jl o.er (S.fg R)=some S'/\N S')):=by
 obtain⟨hl,hk⟩:=ASy (R:=R) hg;cases x with
 |true=>
  obtain⟨S',h1,h2,h3⟩:=hf h;refine⟨S',hk.trans h1,h2,fun N hN=>⟨_,mM hg,.inl ⟨hx.symm,?_⟩⟩⟩
  grind
 |false=>
  obtain⟨S',h1,h2,h3⟩:=gN (R:=R) h;refine⟨S',hk.trans h2,h3,fun N hN=>⟨_,mM hg,.inr ⟨hx.symm,_,?_,hN⟩⟩⟩
  rwa[hl]at h1
theorem ASm{g:Option (Nat×Bool)}{o:YOp R}{S:St}{K:St->Option ρ}{r:ρ}(h:evg g o S K=some r) :
 ∃S',BE S S'/\K S'=some r/\∀N:Lv.St->Prop,N (S'.fg R)->Gd R g o (S.fg R) N:=by
 unfold evg at h;split at h
 .obtain⟨S',h1,h2,h3⟩:=AF3 h;exact⟨S',h1,h2,fun N hN=>⟨true,rfl,.inl ⟨rfl,h3 N hN⟩⟩⟩
 .rename_i s w;split at h
  .rename_i b v hg;rcases ADS h with ⟨rfl,h'⟩|⟨rfl,h'⟩
   .exact P2 (P:=opK Hb o.er) hg w (by cases w<;>rfl) h' fun hf=>AF3 hf
   .exact P2 (P:=opK Hb o.er) hg (!w) (by cases w<;>rfl) h' fun hf=>AF3 hf
  .rename_i v hg;obtain⟨S',h1,h2,h3⟩:=gN (R:=R) h;exact⟨S',h2,h3,fun N hN=>⟨false,yz hg,.inr ⟨rfl,_,h1,hN⟩⟩⟩
  .cases h
theorem ALQ:∀{ops:List (Option (Nat×Bool)×YOp R)} {S:St} {K:St->Option ρ} {r:ρ},evs ops S K=some r ->
 ∃S',BE S S'/\K S'=some r/\∀N:Lv.St->Prop,N (S'.fg R)->ACl Hb (ops.map fun p=>(p.1,p.2.er)) (S.fg R) N
 | [],S,K,r,h=>⟨S,BE.refl _,h,fun N hN=>hN⟩|(g,o)::ops,S,K,r,h=>by
  have h':evg g o S (fun S'=>evs ops S' K)=some r:=by
   grind[evs,force_eq]
  obtain⟨S1,h1,h2,h3⟩:=ASm h';obtain⟨S2,h4,h5,h6⟩:=ALQ h2;exact⟨S2,h1.trans h4,h5,fun N hN=>h3 _ (h6 N hN)⟩
theorem ATs(o:YOp R):o.er.wr=o.wr.map (YO.er R):=by cases o<;>rfl
theorem VI(l:AP):∀(ks:List PK) (es:List En),Lv.H8 (AP.fg R l) (ks.map PK.md) (es.map (En.fg R))=H8 l ks es
 | [],es=>by cases es<;>rfl
 |k::ks,[]=>rfl|k::ks,e::es=>by
  simp only[AI,Lv.H8,H8,mN,En.fg,List.all_map,Function.comp_def,AJR,VI l ks es]
theorem AQm{S:St}{l:AP}(h:S.Kw l=true):(S.fg R).Kw (AP.fg R l)=true:=by
 unfold St.Kw at h;split at h
 .simp only[AP.fg,Lv.St.Kw,Mx,Option.isSome_map];exact h
 .rfl
 .rename_i s cs;cases cs<;>simp_all[AP.fg,Lv.St.Kw]
 .grind[AP.fg,Lv.St.Kw,Ic,AQt]
 .rfl
 .rfl
 .cases h
theorem rb{o:YOp R}{S:Lv.St}(h1:∀d g fs hf args,o≠.call d g fs hf args)(h2:∀d x ms args,o≠.Dg d x ms args):Lv.Ek o.er S=none:=by
 cases o<;>first|rfl|(exact(h1 _ _ _ _ _ rfl).elim)|(exact(h2 _ _ _ _ rfl).elim)
theorem APK{o:YOp R}{S:St}{l:AP}(h:Q9 o S l=true):Lv.Q9 o.er (S.fg R) (AP.fg R l)=true:=by
 unfold Q9 at h;simp only[AD]at h;obtain⟨h1,h2⟩:=h;unfold Lv.Q9;rw[AQm h1,Bool.true_and];have hr2:(AP.fg R l).BX=l.BX:=Ix l;have gen:(∀d g fs hf args,o≠.call d g fs hf args)->(∀d x ms args,o≠.Dg d x ms args) ->
  (match o.wr with|some y=>(match S.one y with|some lt=>l.BX.isNone||!(match l.BX with|some r=>isR lt.BX r|none=>lt.BX.isNone)|none=>false)|none=>true)=true ->
  (match Lv.Ek o.er (S.fg R) with
  |some (_,f,es)=>Lv.H8 (AP.fg R l) (Dp f) es|none=>match o.er.wr with
   |some y=>(match (S.fg R).one y with|some lt=>(AP.fg R l).BX.isNone||decide ((AP.fg R l).BX≠lt.BX)|none=>true)
   |none=>true)=true:=by
  intro n1 n2 h;rw[rb n1 n2,ATs];cases hy:o.wr with
  |none=>rfl|some y=>
   rw[hy]at h;dsimp only at h;cases ho:S.one y with
   |none=>rw[ho]at h;cases h
   |some lt=>
    rw[ho]at h;dsimp only at h ⊢;simp only[Ab,EE ho];rw[hr2,Ix,decide_not,<-APH];exact h
 cases o with
 |st n x v=>
  dsimp only at h2;have h4:Lv.names (AP.fg R l)=names l:=fD l;generalize AP.fg R l=L at h4 hr2 ⊢;cases ho:S.one x with
  |none=>rw[ho]at h2;cases h2
  |some lp=>
   rw[ho]at h2;have h3:=EE (R:=R) ho;simp only[YOp.er,h3];cases lp with
   |bp id o=>
    dsimp only at h2;show (!(Lv.names L).contains id)=true;rw[h4,List.contains_eq_mem,<-QK];exact h2
   |ep r0 i j=>
    dsimp only at h2;show decide (L.BX≠some r0)=true;rw[hr2];rw[WK]at h2;simpa using h2
   |_=>cases h2
 |call d g fs hf args=>
  dsimp only at h2;cases hr:S.rds args with
  |none=>rw[hr]at h2;cases h2
  |some es=>
   rw[hr]at h2;have h3:=VI (R:=R) l g.ps es;generalize AP.fg R l=L at h3 ⊢;simp only[YOp.er,Lv.Ek,Wi hr,g.ms];rw[h3];exact h2
 |Dg d x ms args=>
  dsimp only at h2;split at h2
  .rename_i n caps es h4 h5;split at h2
   .rename_i g h6;split at h2
    .rename_i h7;have hx:xr R n=g.x:=by unfold xr;rw[h6]
     have h8:=VI (R:=R) l g.ps (es++caps.map fun l=>⟨.one,[l.leaf]⟩);rw[CO,DG]at h8;rw[show (En.fg R∘fun l=>(⟨.one,[l.leaf]⟩:En))=((fun l=>(⟨Sh.one,[l]⟩:Lv.Ent))∘Cap.fg) from by funext c;simp only[Function.comp,En.fg,AI,BC,W4],<-DG]at h8;have h9:=EE (R:=R) h4;simp only[AP.fg,hx]at h9;generalize AP.fg R l=L at h8 ⊢;simp only[YOp.er,Lv.Ek,h9,Wi h5];rw[if_pos (by rw[g.ms,h7])];dsimp only;rw[g.ms,h8];exact h2
    .cases h2
   .cases h2
  .cases h2
 |_=>exact gen (by intros;simp) (by intros;simp) h2
theorem yV{o:YOp R}{S:St}:∀{sf:List Nat},Hu o S sf=true->Lv.Hu o.er (S.fg R) sf=true
 | [],h=>rfl|s::sf,h=>by
  simp only[Hu,AD]at h;obtain⟨h1,h2⟩:=h;simp only[Lv.Hu,AD];refine⟨?_,yV h2⟩;split at h1
  .rename_i l hl;have:=EE (R:=R) hl
   grind[YO.er,APK]
  .cases h1
theorem nB:∀{a b:List (Option Nat)},AHK a b=true->a=b
 | [],[],_=>rfl|none::r,none::r',h=>by simp only[AHK]at h;rw[nB h]|some a::r,some b::r',h=>by simp only[AHK,AD]at h;rw[beq_true h.1,nB h.2]| [],_::_,h=>by cases h
 |none::_,[],h=>by cases h
 |some _::_,[],h=>by cases h
 |none::_,some _::_,h=>by cases h
 |some _::_,none::_,h=>by cases h
theorem AQg{a b:Sh}(h:ASk a b=true):a=b:=by
 cases a<;>cases b<;>first|rfl|(cases h;done)|(simp only[ASk]at h;first|rw[nB h]|rw[beq_true h])
theorem w7:∀{a b:Option (Nat×Nat)},AF0 a b=true->a=b
 |none,none,_=>rfl|some (a,b),some (a',b'),h=>by simp only[AF0,AD]at h;rw[beq_true h.1,beq_true h.2]|none,some _,h=>by cases h
 |some _,none,h=>by cases h
theorem Wq:∀{a b:Bo},Bo.is a b=true->a=b
 |.tmp s c,.tmp s' c',h=>by
  grind[Bo.is,beq_true]
 |.cell s c,.cell s' c',h=>by
  simp only[Bo.is]at h
  grind[beq_true]
 |.tmp _ _,.cell _ _,h=>by cases h
 |.cell _ _,.tmp _ _,h=>by cases h
theorem w6{a b:Src}(h:AFz a b=true):a=b:=by
 cases a<;>cases b<;>simp only[AFz,AD]at h<;>first|(cases h;done)|rw[Wq h.1,w7 h.2]|rw[beq_true h]
theorem AFy:∀{a b:List (Nat×Nat)},AQf a b=true->a=b
 | [],[],_=>rfl|(a,b)::r,(a',b')::r',h=>by simp only[AQf,AD]at h;rw[beq_true h.1.1,beq_true h.1.2,AFy h.2]| [],_::_,h=>by cases h
 |_::_,[],h=>by cases h
theorem PU{γ:Type}{b:Bool}{x:Option γ}{r:γ}(h:ifB b x=some r):b=true/\x=some r:=by
 grind
theorem zA{x y:U}{X:Option ρ}{r:ρ}(h:agU x y X=some r):x=y/\X=some r:=by
 cases x<;>cases y<;>simp only[agU]at h<;>first|(cases h;done)|exact⟨rfl,h⟩|skip
 .grind[PI]
 .grind[PI]
 .obtain⟨rfl,h1⟩:=PI h;exact⟨rfl,h1⟩
 .obtain⟨rfl,h1⟩:=PI h;exact⟨rfl,h1⟩
 .grind[PI]
 grind[PI]
theorem ADM:∀{x y:List U} {X:Option ρ} {r:ρ},ASB x y X=some r->x=y/\X=some r
 | [],[],X,r,h=>⟨rfl,h⟩|a::x,b::y,X,r,h=>by
  obtain⟨rfl,h1⟩:=zA h;obtain⟨rfl,h2⟩:=ADM h1;exact⟨rfl,h2⟩
 | [],_::_,_,_,h=>by cases h
 |_::_,[],_,_,h=>by cases h
theorem AJx{c c':C}{xs:List c.D}{ys:List c'.D}{X:Option ρ}{r:ρ}(h:(if h:c'=c then eqv xs (h▸ys) X else none)=some r):(⟨c,xs⟩:(c:C)×List c.D)=⟨c',ys⟩/\X=some r:=by
 grind[PI]
theorem APx:∀{x y:AP} {X:Option ρ} {r:ρ},ATW x y X=some r->x=y/\X=some r
 |.t x,.t y,X,r,h=>by obtain⟨rfl,h1⟩:=zA h;exact⟨rfl,h1⟩
 |.und,.und,X,r,h=>⟨rfl,h⟩|.ow x,.ow y,X,r,h=>by obtain⟨rfl,h1⟩:=zA h;exact⟨rfl,h1⟩
 |.owh c xs hs,.owh c' ys hs',X,r,h=>by
  obtain⟨h1,h3⟩:=PU h;obtain⟨h2,h4⟩:=AJx h3;cases h2;rw[AFy h1];exact⟨rfl,h4⟩
 |.al r0 s,.al r' s',X,r,h=>by
  obtain⟨h1,h⟩:=PU h
  grind[Wq,w7]
 |.ep r0 i j,.ep r' i' j',X,r,h=>by
  obtain⟨h1,h⟩:=PU h
  grind[PI,Wq,beq_true]
 |.vw s c xs,.vw s' c' ys,X,r,h=>by
  obtain⟨h1,h3⟩:=PU h;obtain⟨h2,h4⟩:=AJx h3;cases h2;rw[w6 h1];exact⟨rfl,h4⟩
 |.vp s cs,.vp s' cs',X,r,h=>by
  obtain⟨h1,h⟩:=PU h;obtain⟨rfl,h4⟩:=ADM h;rw[w6 h1];exact⟨rfl,h4⟩
 |.bp a o,.bp a' o',X,r,h=>by
  obtain⟨h1,h⟩:=PU h
  grind[beq_true]
 |.fn _ _,.fn _ _,_,_,h=>by cases h
 |.t _,.und,_,_,h=>by cases h
 |.t _,.ow _,_,_,h=>by cases h
 |.t _,.owh _ _ _,_,_,h=>by cases h
 |.t _,.al _ _,_,_,h=>by cases h
 |.t _,.ep _ _ _,_,_,h=>by cases h
 |.t _,.vw _ _ _,_,_,h=>by cases h
 |.t _,.vp _ _,_,_,h=>by cases h
 |.t _,.bp _ _,_,_,h=>by cases h
 |.t _,.fn _ _,_,_,h=>by cases h
 |.und,.t _,_,_,h=>by cases h
 |.und,.ow _,_,_,h=>by cases h
 |.und,.owh _ _ _,_,_,h=>by cases h
 |.und,.al _ _,_,_,h=>by cases h
 |.und,.ep _ _ _,_,_,h=>by cases h
 |.und,.vw _ _ _,_,_,h=>by cases h
 |.und,.vp _ _,_,_,h=>by cases h
 |.und,.bp _ _,_,_,h=>by cases h
 |.und,.fn _ _,_,_,h=>by cases h
 |.ow _,.t _,_,_,h=>by cases h
 |.ow _,.und,_,_,h=>by cases h
 |.ow _,.owh _ _ _,_,_,h=>by cases h
 |.ow _,.al _ _,_,_,h=>by cases h
 |.ow _,.ep _ _ _,_,_,h=>by cases h
 |.ow _,.vw _ _ _,_,_,h=>by cases h
 |.ow _,.vp _ _,_,_,h=>by cases h
 |.ow _,.bp _ _,_,_,h=>by cases h
 |.ow _,.fn _ _,_,_,h=>by cases h
 |.owh _ _ _,.t _,_,_,h=>by cases h
 |.owh _ _ _,.und,_,_,h=>by cases h
 |.owh _ _ _,.ow _,_,_,h=>by cases h
 |.owh _ _ _,.al _ _,_,_,h=>by cases h
 |.owh _ _ _,.ep _ _ _,_,_,h=>by cases h
 |.owh _ _ _,.vw _ _ _,_,_,h=>by cases h
 |.owh _ _ _,.vp _ _,_,_,h=>by cases h
 |.owh _ _ _,.bp _ _,_,_,h=>by cases h
 |.owh _ _ _,.fn _ _,_,_,h=>by cases h
 |.al _ _,.t _,_,_,h=>by cases h
 |.al _ _,.und,_,_,h=>by cases h
 |.al _ _,.ow _,_,_,h=>by cases h
 |.al _ _,.owh _ _ _,_,_,h=>by cases h
 |.al _ _,.ep _ _ _,_,_,h=>by cases h
 |.al _ _,.vw _ _ _,_,_,h=>by cases h
 |.al _ _,.vp _ _,_,_,h=>by cases h
 |.al _ _,.bp _ _,_,_,h=>by cases h
 |.al _ _,.fn _ _,_,_,h=>by cases h
 |.ep _ _ _,.t _,_,_,h=>by cases h
 |.ep _ _ _,.und,_,_,h=>by cases h
 |.ep _ _ _,.ow _,_,_,h=>by cases h
 |.ep _ _ _,.owh _ _ _,_,_,h=>by cases h
 |.ep _ _ _,.al _ _,_,_,h=>by cases h
 |.ep _ _ _,.vw _ _ _,_,_,h=>by cases h
 |.ep _ _ _,.vp _ _,_,_,h=>by cases h
 |.ep _ _ _,.bp _ _,_,_,h=>by cases h
 |.ep _ _ _,.fn _ _,_,_,h=>by cases h
 |.vw _ _ _,.t _,_,_,h=>by cases h
 |.vw _ _ _,.und,_,_,h=>by cases h
 |.vw _ _ _,.ow _,_,_,h=>by cases h
 |.vw _ _ _,.owh _ _ _,_,_,h=>by cases h
 |.vw _ _ _,.al _ _,_,_,h=>by cases h
 |.vw _ _ _,.ep _ _ _,_,_,h=>by cases h
 |.vw _ _ _,.vp _ _,_,_,h=>by cases h
 |.vw _ _ _,.bp _ _,_,_,h=>by cases h
 |.vw _ _ _,.fn _ _,_,_,h=>by cases h
 |.vp _ _,.t _,_,_,h=>by cases h
 |.vp _ _,.und,_,_,h=>by cases h
 |.vp _ _,.ow _,_,_,h=>by cases h
 |.vp _ _,.owh _ _ _,_,_,h=>by cases h
 |.vp _ _,.al _ _,_,_,h=>by cases h
 |.vp _ _,.ep _ _ _,_,_,h=>by cases h
 |.vp _ _,.vw _ _ _,_,_,h=>by cases h
 |.vp _ _,.bp _ _,_,_,h=>by cases h
 |.vp _ _,.fn _ _,_,_,h=>by cases h
 |.bp _ _,.t _,_,_,h=>by cases h
 |.bp _ _,.und,_,_,h=>by cases h
 |.bp _ _,.ow _,_,_,h=>by cases h
 |.bp _ _,.owh _ _ _,_,_,h=>by cases h
 |.bp _ _,.al _ _,_,_,h=>by cases h
 |.bp _ _,.ep _ _ _,_,_,h=>by cases h
 |.bp _ _,.vw _ _ _,_,_,h=>by cases h
 |.bp _ _,.vp _ _,_,_,h=>by cases h
 |.bp _ _,.fn _ _,_,_,h=>by cases h
 |.fn _ _,.t _,_,_,h=>by cases h
 |.fn _ _,.und,_,_,h=>by cases h
 |.fn _ _,.ow _,_,_,h=>by cases h
 |.fn _ _,.owh _ _ _,_,_,h=>by cases h
 |.fn _ _,.al _ _,_,_,h=>by cases h
 |.fn _ _,.ep _ _ _,_,_,h=>by cases h
 |.fn _ _,.vw _ _ _,_,_,h=>by cases h
 |.fn _ _,.vp _ _,_,_,h=>by cases h
 |.fn _ _,.bp _ _,_,_,h=>by cases h
theorem mP:∀{x y:List AP} {X:Option ρ} {r:ρ},APy x y X=some r->x=y/\X=some r
 | [],[],X,r,h=>⟨rfl,h⟩|a::x,b::y,X,r,h=>by
  obtain⟨rfl,h1⟩:=APx h;obtain⟨rfl,h2⟩:=mP h1;exact⟨rfl,h2⟩
 | [],_::_,_,_,h=>by cases h
 |_::_,[],_,_,h=>by cases h
theorem Xs{a b:Nat}(h:Nat.blt a b=true):a<b:=by simp[Nat.blt]at h;omega
theorem y9{v:Nat}{P:Nat->Ent->Prop}(hP:∀k e e',P k e->P k e'->e=e'):∀{x y:List (Nat×Ent)} {X:Option ρ} {r:ρ},(∀k e,(k,e)∈x->e.ver<v->P k e)->(∀k e,(k,e)∈y->e.ver<v->P k e)->agE v x y X=some r->fgE R x=fgE R y/\X=some r
 | [],[],X,r,_,_,h=>⟨rfl,h⟩|(k,e)::x,(k',e')::y,X,r,hx,hy,h=>by
  simp only[agE]at h;split at h
  .rename_i hk;have:=beq_true hk;subst this;split at h
   .rename_i hv;simp only[AD]at hv;have:=hP k e e' (hx k e (BG ..) (Xs hv.1)) (hy k e' (BG ..) (Xs hv.2));subst this;obtain⟨h1,h2⟩:=y9 hP (fun k e hm=>hx k e (Ag _ hm)) (fun k e hm=>hy k e (Ag _ hm)) h;exact⟨by unfold fgE at h1 ⊢;rw[AI,AI,h1],h2⟩
   .obtain⟨h3,h⟩:=PU h;obtain⟨h4,h⟩:=mP h;obtain⟨h1,h2⟩:=y9 hP (fun k e hm=>hx k e (Ag _ hm)) (fun k e hm=>hy k e (Ag _ hm)) h;exact⟨by unfold fgE at h1 ⊢;rw[AI,AI,h1];simp only[Ent.fg,AQg h3,h4],h2⟩
  .cases h
 | [],_::_,_,_,_,_,h=>by cases h
 |_::_,[],_,_,_,_,h=>by cases h
theorem y8{v:Nat}{P:Nat->Bx->Prop}(hP:∀k e e',P k e->P k e'->e=e'):∀{x y:List (Nat×Bx)} {X:Option ρ} {r:ρ},(∀k e,(k,e)∈x->e.ver<v->P k e)->(∀k e,(k,e)∈y->e.ver<v->P k e)->agB v x y X=some r->fgB R x=fgB R y/\X=some r
 | [],[],X,r,_,_,h=>⟨rfl,h⟩|(k,e)::x,(k',e')::y,X,r,hx,hy,h=>by
  simp only[agB]at h;split at h
  .rename_i hk;have:=beq_true hk;subst this;split at h
   .rename_i hv;simp only[AD]at hv;have:=hP k e e' (hx k e (BG ..) (Xs hv.1)) (hy k e' (BG ..) (Xs hv.2));subst this;obtain⟨h1,h2⟩:=y8 hP (fun k e hm=>hx k e (Ag _ hm)) (fun k e hm=>hy k e (Ag _ hm)) h;exact⟨by unfold fgB at h1 ⊢;rw[AI,AI,h1],h2⟩
   .obtain⟨h4,h⟩:=mP h;obtain⟨h1,h2⟩:=y8 hP (fun k e hm=>hx k e (Ag _ hm)) (fun k e hm=>hy k e (Ag _ hm)) h;exact⟨by unfold fgB at h1 ⊢;rw[AI,AI,h1,h4],h2⟩
  .cases h
 | [],_::_,_,_,_,_,h=>by cases h
 |_::_,[],_,_,_,_,h=>by cases h
theorem xY{α:Type}{k:Nat}{e:α}:∀{l:List (Nat×α)},(k,e)∈l->XS k l=true
 |(j,x)::l,h=>by
  simp only[XS];cases hb:Nat.beq j k with
  |true=>rfl|false=>
   rcases Ac.1 h with h|h
   .cases h;rw[J9]at hb;cases hb
   .exact xY h
theorem NA{α:Type}{k:Nat}{e:α}:∀{l:List (Nat×α)},fG l=true->(k,e)∈l->get l k=some e
 |(j,x)::l,hd,h=>by
  simp only[fG,AD,Az]at hd;simp only[get];rcases Ac.1 h with h|h
  .cases h;rw[J9]
  .cases hb:Nat.beq j k with
   |true=>rw[beq_true hb,xY h]at hd;cases hd.1
   |false=>exact NA hd.2 h
theorem ASA{S A B:St}{X:Option ρ}{r:ρ}(hA:BE S A)(hB:BE S B)(h:agS S.nv A B X=some r):A.fg R=B.fg R/\X=some r:=by
 obtain⟨h1,h⟩:=PU h;simp only[AD]at h1;obtain⟨⟨⟨n1,n2⟩,n3⟩,n4⟩:=h1;obtain⟨e1,h⟩:=y9 (R:=R) (P:=fun k e=>get S.tm k=some e) (fun k e e' h h'=>by rw[h]at h';exact Option.some.inj h') (fun k e hm hv=>hA.tm k e (NA n1 hm) hv) (fun k e hm hv=>hB.tm k e (NA n2 hm) hv) h;obtain⟨e2,h⟩:=y8 (R:=R) (P:=fun k e=>get S.bx k=some e) (fun k e e' h h'=>by rw[h]at h';exact Option.some.inj h') (fun k e hm hv=>hA.bx k e (NA n3 hm) hv) (fun k e hm hv=>hB.bx k e (NA n4 hm) hv) h;exact⟨by simp only[St.fg,e1,e2,hA.pin,hB.pin],h⟩
theorem Vw:∀{x:BS R} {S:St} {K:St->Option ρ} {r:ρ},evr x S K=some r ->
 ∃S',BE S S'/\K S'=some r/\∀N:Lv.St->Prop,N (S'.fg R)->runK Hb x.er (S.fg R) N
 |.nil,S,K,r,h=>⟨S,BE.refl _,h,fun N hN=>hN⟩|.dr ds x,S,K,r,h=>by
  obtain⟨S',h1,h2,h3⟩:=Vw (x:=x) h;refine⟨S',(BE.Gg _ _).trans h1,h2,fun N hN=>?_⟩;have:=h3 N hN;rw[w4]at this;exact this
 |.nl ns x,S,K,r,h=>by
  obtain⟨S',h1,h2,h3⟩:=Vw (x:=x) h;refine⟨S',(BE.OE _ _).trans h1,h2,fun N hN=>?_⟩;have:=h3 N hN;rw[pA]at this;exact this
 |.both n a b,S,K,r,h=>by
  have h:evr a S (fun A=>evr b S fun B=>agS S.nv A B (K A))=some r:=by
   cases n with
   |zero=>exact h|succ n=>simpa only[evr,ADO] using h
  obtain⟨A,a1,a2,a3⟩:=Vw (x:=a) (K:=fun A=>evr b S fun B=>agS S.nv A B (K A)) h;obtain⟨B,b1,b2,b3⟩:=Vw (x:=b) (K:=fun B=>agS S.nv A B (K A)) a2;obtain⟨e,h2⟩:=ASA (R:=R) a1 b1 b2;exact⟨A,a1,h2,fun N hN=>⟨a3 N hN,b3 N (e▸hN)⟩⟩
 |.op i g sf o x,S,K,r,h=>by
  have safe:∀{S:St},(if Hu o S sf=true then ev o S fun S'=>S'.force fun S'=>evr x S' K else none)=some r ->
   ∃S',BE S S'/\evr x S' K=some r/\∀N:Lv.St->Prop,N (S'.fg R)->(Lv.Hu o.er (S.fg R) sf=true/\opK Hb o.er (S.fg R) N):=by
   intro S h;split at h
   .rename_i hs;obtain⟨S',h1,h2,h3⟩:=AF3 h;rw[force_eq]at h2;exact⟨S',h1,h2,fun N hN=>⟨yV hs,h3 N hN⟩⟩
   .cases h
  have key:∃S',BE S S'/\evr x S' K=some r/\∀N:Lv.St->Prop,N (S'.fg R)->∃b,Lv.wanted (S.fg R) g=some b/\((b=true/\Lv.Hu o.er (S.fg R) sf=true/\opK Hb o.er (S.fg R) N)\/(b=false/\∃S',Lv.Jl o.er (S.fg R)=some S'/\N S')):=by
   simp only[evr,ASp]at h;split at h
   .obtain⟨S',h1,h2,h3⟩:=safe h;exact⟨S',h1,h2,fun N hN=>⟨true,rfl,.inl ⟨rfl,h3 N hN⟩⟩⟩
   .rename_i s w;split at h
    .rename_i b v hg;rcases ADS h with ⟨rfl,h'⟩|⟨rfl,h'⟩
     .refine P2 (K:=fun S'=>evr x S' K) (P:=fun S N=>Lv.Hu o.er S sf=true/\opK Hb o.er S N) hg w (by cases w<;>rfl) (f:=if Hu o (S.lit s true) sf=true then ev o (S.lit s true) fun S'=>S'.force fun S'=>evr x S' K else none) ?_ fun hf=>safe hf
      simpa only[force_eq] using h'
     .refine P2 (K:=fun S'=>evr x S' K) (P:=fun S N=>Lv.Hu o.er S sf=true/\opK Hb o.er S N) hg (!w) (by cases w<;>rfl) (f:=if Hu o (S.lit s false) sf=true then ev o (S.lit s false) fun S'=>S'.force fun S'=>evr x S' K else none) ?_ fun hf=>safe hf
      simpa only[force_eq] using h'
    .rename_i v hg;simp only[force_eq]at h;obtain⟨S',h1,h2,h3⟩:=gN (R:=R) h;exact⟨S',h2,h3,fun N hN=>⟨false,yz hg,.inr ⟨rfl,_,h1,hN⟩⟩⟩
    .cases h
  obtain⟨S1,h1,h2,h3⟩:=key;obtain⟨S2,h4,h5,h6⟩:=Vw (x:=x) h2;exact⟨S2,h1.trans h4,h5,fun N hN=>h3 _ (h6 N hN)⟩
end
end Y
end Lv
namespace Lv
open Go (IntKind BinOp UnOp)
namespace Y
section
variable{R:List GF}{ρ:Type}
theorem ANZ{s:Option Src}{l:AP}{x:U}(h:ANY s l=some x):ANX s x=l:=by
 unfold ANY at h;split at h
 .cases h
 .cases h
 .cases h
 .rename_i h1 h2 h3;cases h;cases s<;>cases x<;>first|rfl|(exact(h1 _ _ rfl).elim)|(exact(h2 rfl).elim)|(exact(h3 _ rfl).elim)
 .split at h
  .cases h;rfl
  .cases h
 .split at h
  .cases h;rfl
  .cases h
 .split at h
  .cases h
  .split at h
   .rename_i hq;subst hq;cases h;rfl
   .cases h
 .cases h
theorem lN{s:Option Src}:∀{ls:List AP} {us:List U},o7 s ls=some us->us.map (ANX s)=ls
 | [],us,h=>by cases h;rfl
 |l::ls,us,h=>by
  simp only[o7]at h;split at h
  .rename_i x xs h1 h2;cases h;rw[AI,ANZ h1,lN h2]
  .cases h
theorem AR6{a:AL}{ls:List AP}{x:a.D}(h:a.un ls=some x):a.leaf x=ls:=by
 cases a with
 |val c s=>
  simp only[AL.un]at h;split at h
  .rename_i us hu;simp only[AL.leaf];rw[WX h,lN hu]
  .cases h
 |num k=>
  simp only[AL.un]at h;split at h
  .split at h
   .rename_i hk;subst hk;cases h;rfl
   .cases h
  .cases h
 |al r=>
  simp only[AL.un]at h;split at h
  .split at h
   .rename_i hk;subst hk;rfl
   .cases h
  .cases h
theorem qh:∀{as:List AL} {ls:List AP} {x:TA as},ARV as ls=some x->Pc as x=ls
 | [],ls,x,h=>by
  cases ls with
  |nil=>rfl|cons l ls=>cases h
 | [a],ls,x,h=>AR6 h|a::a'::as,ls,x,h=>by
  simp only[ARV]at h;split at h
  .rename_i y z h1 h2;cases h;show a.leaf y++Pc (a'::as) z=ls;rw[AR6 h1,qh h2,Gb]
  .cases h
theorem JE{b:Bool}{k:Nat}:∀{c:Cut} {ls:List AP},LH b k c=false->look b k (seg c ls)=none
 | [],ls,h=>rfl|(b',d,sh,as)::c,ls,h=>by
  simp only[LH]at h;simp only[seg,look];split at h
  .cases h
  .exact JE h
theorem Vz{S:St}{k:Nat}:∀{c:Cut} {ls:List AP},Nx S c=some ls->LH false k c=true->∃e,get S.tm k=some e/\look false k (seg c ls)=some (e.sh,e.cs)
 | [],ls,h,hv=>by cases hv
 |(false,d,sh,as)::c,ls,h,hv=>by
  simp only[Nx]at h;split at h
  .rename_i e ls' h1 h2;split at h
   .rename_i hc;cases h;simp only[LH]at hv;simp only[seg,look];split at hv
    .rename_i hm;have hd:d=k:=by simpa[NZ] using hm
     subst hd;refine⟨e,h1,?_⟩;rw[EA hc.2,Uu hc.1]
    .rename_i hm;rw[C2 hc.2];exact Vz h2 hv
   .cases h
  .cases h
 |(true,d,sh,as)::c,ls,h,hv=>by
  simp only[Nx]at h;split at h
  .rename_i e ls' h1 h2;split at h
   .rename_i hc;cases h;have ht:((true:Bool)==false)=false:=rfl;simp only[LH,ht,BN]at hv;simp only[seg,look,ht,BN];rw[C2 hc];exact Vz h2 hv
   .cases h
  .cases h
theorem Vy{S:St}{k:Nat}:∀{c:Cut} {ls:List AP},Nx S c=some ls->LH true k c=true->∃e sh,get S.bx k=some e/\look true k (seg c ls)=some (sh,e.cs)
 | [],ls,h,hv=>by cases hv
 |(true,d,sh,as)::c,ls,h,hv=>by
  simp only[Nx]at h;split at h
  .rename_i e ls' h1 h2;split at h
   .rename_i hc;cases h;simp only[LH]at hv;simp only[seg,look];split at hv
    .rename_i hm;have hd:d=k:=by simpa[NZ] using hm
     subst hd;refine⟨e,sh,h1,?_⟩;rw[EA hc]
    .rename_i hm;rw[C2 hc];exact Vy h2 hv
   .cases h
  .cases h
 |(false,d,sh,as)::c,ls,h,hv=>by
  simp only[Nx]at h;split at h
  .rename_i e ls' h1 h2;split at h
   .rename_i hc;cases h;have ht:((false:Bool)==true)=false:=rfl;simp only[LH,ht,BN]at hv;simp only[seg,look,ht,BN];rw[C2 hc.2];exact Vy h2 hv
   .cases h
  .cases h
theorem AGj{q:List (Bool×Nat×Sh×List AP)}{a:List (Nat×Ent)}{v:Nat}:∀{l:List (Nat×Ent)},(∀k e,(k,e)∈l->look false k q=some (e.sh,e.cs)\/(look false k q=none/\get a k=some e))->fgE R (fw q a v l)=fgE R l
 | [],_=>rfl|(k,e)::l,h=>by
  have ih:=AGj (v:=v) (l:=l) (fun k e hm=>h k e (Ag _ hm));simp only[fgE,fw,AI]at ih ⊢;rw[ih];rcases h k e (by simp) with h1|⟨h1,h2⟩
  .rw[h1];rfl
  .rw[h1,h2]
theorem AGi{q:List (Bool×Nat×Sh×List AP)}{a:List (Nat×Bx)}{v:Nat}:∀{l:List (Nat×Bx)},(∀k e,(k,e)∈l->(∃sh,look true k q=some (sh,e.cs))\/(look true k q=none/\get a k=some e))->fgB R (fv q a v l)=fgB R l
 | [],_=>rfl|(k,e)::l,h=>by
  have ih:=AGi (v:=v) (l:=l) (fun k e hm=>h k e (Ag _ hm));simp only[fgB,fv,AI]at ih ⊢;rw[ih];rcases h k e (by simp) with ⟨sh,h1⟩|⟨h1,h2⟩
  .rw[h1]
  .rw[h1,h2]
theorem WO{α:Type}{k:Nat}{e:α}:∀{l:List (Nat×α)},(k,e)∈l->XS k l=true
 |(j,x)::l,h=>by
  simp only[XS];cases hb:Nat.beq j k with
  |true=>rfl|false=>
   rcases Ac.1 h with h|h
   .cases h;exact(beq_false hb rfl).elim
   .exact WO h
theorem mA{c:Cut}{a:List (Nat×Ent)}:∀{l:List (Nat×Ent)} {k:Nat} {e:Ent},AGm c a l=true->(k,e)∈l->get l k=some e/\(LH false k c=true\/(LH false k c=false/\∃e',get a k=some e'/\e.ver=e'.ver))
 |(j,x)::l,k,e,h,hm=>by
  simp only[AGm,AD,Az]at h;obtain⟨⟨h1,h2⟩,h3⟩:=h;rcases Ac.1 hm with hm|hm
  .grind[Prod.mk.injEq,get,Nat.beq,NZ,LH,beq_true]
  .obtain⟨h4,h5⟩:=mA h3 hm
   grind[get,Nat.beq,beq_true,WO]
theorem l9{c:Cut}{a:List (Nat×Bx)}:∀{l:List (Nat×Bx)} {k:Nat} {e:Bx},AGl c a l=true->(k,e)∈l->get l k=some e/\(LH true k c=true\/(LH true k c=false/\∃e',get a k=some e'/\e.ver=e'.ver))
 |(j,x)::l,k,e,h,hm=>by
  simp only[AGl,AD,Az]at h;obtain⟨⟨h1,h2⟩,h3⟩:=h;rcases Ac.1 hm with hm|hm
  .grind[Prod.mk.injEq,get,Nat.beq,NZ,LH,beq_true]
  .obtain⟨h4,h5⟩:=l9 h3 hm
   grind[get,Nat.beq,beq_true,WO]
theorem AJ9{a b:Nat}(h:Nat.blt a b=true):a<b:=Nat.le_of_ble_eq_true h
theorem AGx{v:Nat}:∀{l:List (Nat×Ent)} {k:Nat} {e:Ent},wfE v l=true->get l k=some e->e.ver<v
 |(j,x)::l,k,e,h,hg=>by
  simp only[wfE,AD]at h;simp only[get]at hg;split at hg
  .cases hg;exact AJ9 h.1
  .exact AGx h.2 hg
theorem AGw{v:Nat}:∀{l:List (Nat×Bx)} {k:Nat} {e:Bx},wfB v l=true->get l k=some e->e.ver<v
 |(j,x)::l,k,e,h,hg=>by
  simp only[wfB,AD]at h;simp only[get]at hg;split at hg
  .cases hg;exact AJ9 h.1
  .exact AGw h.2 hg
structure Dd(c:Cut)(S S':St):Prop where
 tm:∀k e,LH false k c=false->get S'.tm k=some e->e.ver<S.nv->get S.tm k=some e
 bx:∀k e,LH true k c=false->get S'.bx k=some e->e.ver<S.nv->get S.bx k=some e
 pin:S'.pin=S.pin
theorem Dd.of{c:Cut}{S S':St}(h:BE S S'):Dd c S S':=⟨fun k e _=>h.tm k e,fun k e _=>h.bx k e,h.pin⟩
theorem nD{c:Cut}{S S':St}{x:TA c.as}(h:c.fit S S'=some x)(hh:Dd c S S') :
 (c.st S S' x).fg R=S'.fg R /\
 (∀k e,(k,e)∈S'.tm->look false k (seg c (Pc c.as x))=some (e.sh,e.cs)\/(look false k (seg c (Pc c.as x))=none/\get S.tm k=some e)) /\
 (∀k e,(k,e)∈S'.bx->(∃sh,look true k (seg c (Pc c.as x))=some (sh,e.cs))\/(look true k (seg c (Pc c.as x))=none/\get S.bx k=some e)):=by
 unfold Cut.fit at h;split at h
 .rename_i hc;obtain⟨w1,w2,s1,s2⟩:=hc;split at h
  .rename_i ls hg;rw[qh h];have hE:∀k e,(k,e)∈S'.tm->look false k (seg c ls)=some (e.sh,e.cs)\/(look false k (seg c ls)=none/\get S.tm k=some e):=by
    intro k e hm;obtain⟨h1,h2⟩:=mA s1 hm;rcases h2 with h2|⟨h2,e',h3,h4⟩
    .obtain⟨e2,h5,h6⟩:=Vz hg h2;rw[h1]at h5;cases h5;exact .inl h6
    .exact .inr ⟨JE h2,hh.tm k e h2 h1 (by rw[h4];exact AGx w1 h3)⟩
   have hB:∀k e,(k,e)∈S'.bx->(∃sh,look true k (seg c ls)=some (sh,e.cs))\/(look true k (seg c ls)=none/\get S.bx k=some e):=by
    intro k e hm;obtain⟨h1,h2⟩:=l9 s2 hm;rcases h2 with h2|⟨h2,e',h3,h4⟩
    .obtain⟨e2,sh,h5,h6⟩:=Vy hg h2;rw[h1]at h5;cases h5;exact .inl ⟨sh,h6⟩
    .exact .inr ⟨JE h2,hh.bx k e h2 h1 (by rw[h4];exact AGw w2 h3)⟩
   refine⟨?_,hE,hB⟩;simp only[St.fg,Cut.st,qh h];rw[AGj hE,AGi hB,hh.pin]
  .cases h
 .cases h
theorem lq{q:List (Bool×Nat×Sh×List AP)}{a:List (Nat×Ent)}{v:Nat}:∀{l l':List (Nat×Ent)},LA l l'=true->(∀k e,(k,e)∈l'->look false k q=some (e.sh,e.cs)\/(look false k q=none/\get a k=some e))->fw q a v l=fw q a v l'
 | [],[],_,_=>rfl| [],_::_,h,_=>by cases h
 |_::_,[],h,_=>by cases h
 |(k,e)::l,(k',e')::l',h,hl=>by
  simp only[LA,AD]at h;obtain⟨h1,h2⟩:=h;have:=beq_true h1;subst this;have ih:=lq (v:=v) h2 (fun k e hm=>hl k e (Ag _ hm))
  grind[fw]
theorem ln{q:List (Bool×Nat×Sh×List AP)}{a:List (Nat×Bx)}{v:Nat}:∀{l l':List (Nat×Bx)},LA l l'=true->(∀k e,(k,e)∈l'->(∃sh,look true k q=some (sh,e.cs))\/(look true k q=none/\get a k=some e))->fv q a v l=fv q a v l'
 | [],[],_,_=>rfl| [],_::_,h,_=>by cases h
 |_::_,[],h,_=>by cases h
 |(k,e)::l,(k',e')::l',h,hl=>by
  simp only[LA,AD]at h;obtain⟨h1,h2⟩:=h;have:=beq_true h1;subst this;have ih:=ln (v:=v) h2 (fun k e hm=>hl k e (Ag _ hm))
  grind[fv]
theorem cr{q:List (Bool×Nat×Sh×List AP)}{a:List (Nat×Ent)}{v k:Nat}(hq:look false k q=none):∀{l:List (Nat×Ent)} {y:Ent},get (fw q a v l) k=some y->∃e,get l k=some e/\y=(match get a k with|some e'=>e'|none=>e)
 |(j,x)::l,y,h=>by
  simp only[fw,get]at h ⊢;cases hb:Nat.beq j k with
  |true=>
   grind[beq_true,Option.some.inj]
  |false=>rw[hb]at h;exact cr hq h
theorem cq{q:List (Bool×Nat×Sh×List AP)}{a:List (Nat×Bx)}{v k:Nat}(hq:look true k q=none):∀{l:List (Nat×Bx)} {y:Bx},get (fv q a v l) k=some y->∃e,get l k=some e/\y=(match get a k with|some e'=>e'|none=>e)
 |(j,x)::l,y,h=>by
  simp only[fv,get]at h ⊢;cases hb:Nat.beq j k with
  |true=>
   grind[beq_true,Option.some.inj]
  |false=>rw[hb]at h;exact cq hq h
theorem Dd.round{c:Cut}{S S':St}{x:TA c.as}(h:BE (c.st S S x) S'):Dd c S S':=by
 refine⟨fun k e hv hg hlt=>?_,fun k e hv hg hlt=>?_,h.pin⟩
 .have h1:=h.tm k e hg (Hk hlt);obtain⟨e',h2,h3⟩:=cr (JE hv) h1
  grind
 .have h1:=h.bx k e hg (Hk hlt);obtain⟨e',h2,h3⟩:=cq (JE hv) h1;rw[h2]at h3;subst h3;exact h2
theorem kv{c:Cut}{S S':St}{y:TA c.as}(h:c.fit S S'=some y)(hh:Dd c S S')(h1:LA S.tm S'.tm=true)(h2:LA S.bx S'.bx=true):(c.st S S y).fg R=S'.fg R:=by
 obtain⟨h3,h4,h5⟩:=nD (R:=R) h hh
 grind[St.fg,Cut.st,lq,ln]
theorem WR{b:Bool}{k:Nat}:∀{c:Cut} {ls:List AP},LH b k c=true->∃p,look b k (seg c ls)=some p
 |(b',d,sh,as)::c,ls,h=>by
  simp only[LH]at h;simp only[seg,look];split at h
  .exact⟨_,rfl⟩
  .exact WR h
theorem yP{q:List (Bool×Nat×Sh×List AP)}{a:List (Nat×Ent)}{v k:Nat}{p:Sh×List AP}(hp:look false k q=some p):∀{l:List (Nat×Ent)} {y:Ent},get (fw q a v l) k=some y->v<=y.ver
 |(j,z)::l,y,h=>by
  simp only[fw,get]at h;cases hb:Nat.beq j k with
  |true=>
   grind[beq_true]
  |false=>rw[hb]at h;exact yP hp h
theorem yO{q:List (Bool×Nat×Sh×List AP)}{a:List (Nat×Bx)}{v k:Nat}{p:Sh×List AP}(hp:look true k q=some p):∀{l:List (Nat×Bx)} {y:Bx},get (fv q a v l) k=some y->v<=y.ver
 |(j,z)::l,y,h=>by
  simp only[fv,get]at h;cases hb:Nat.beq j k with
  |true=>
   grind[beq_true]
  |false=>rw[hb]at h;exact yO hp h
theorem BE.st{c:Cut}{S S':St}{x:TA c.as}(hk:BE S S'):BE S (c.st S S' x):=by
 refine⟨by simp[Cut.st],fun k e he hv=>?_,fun k e he hv=>?_,rfl⟩
 .cases hvk:LH false k c with
  |false=>
   obtain⟨e',h4,h5⟩:=cr (JE hvk) he;cases hg:get S.tm k with
   |some e2=>rw[hg]at h5;subst h5;rfl|none=>
    rw[hg]at h5;subst h5;have:=hk.tm k _ h4 hv;rw[hg]at this;cases this
  |true=>
   obtain⟨p,hp⟩:=WR (ls:=Pc c.as x) hvk;exact absurd hv (LM.2 (yP hp he))
 .cases hvk:LH true k c with
  |false=>
   obtain⟨e',h4,h5⟩:=cq (JE hvk) he;cases hg:get S.bx k with
   |some e2=>rw[hg]at h5;subst h5;rfl|none=>
    rw[hg]at h5;subst h5;have:=hk.bx k _ h4 hv;rw[hg]at this;cases this
  |true=>
   obtain⟨p,hp⟩:=WR (ls:=Pc c.as x) hvk;exact absurd hv (LM.2 (yO hp he))
theorem DY:∀{x:FM R} {S:St} {K:Ex->St->Option ρ} {r:ρ} {Q:Ex->Lv.St->Prop},Fu x S K=some r->(∀e S',BE S S'->K e S'=some r->Q e (S'.fg R))->wp Hb x.er (S.fg R) Q
 |.skip,S,K,r,Q,h,hQ=>hQ _ _ (BE.refl _) h|.region ops Eh,S,K,r,Q,h,hQ=>by
  obtain⟨S',h1,h2,h3⟩:=ALQ (show evs ops S _=some r from h);rw[force_eq]at h2;refine h3 _ ⟨S'.clo 6 (S'.pin++Eh),?_⟩;rw[<-Sb];exact hQ _ _ (h1.trans (BE.clean _ _)) h2
 |.Vm x Eh,S,K,r,Q,h,hQ=>by
  obtain⟨S',h1,h2,h3⟩:=Vw (show evr x S _=some r from h);rw[force_eq]at h2;refine h3 _ ⟨S'.clo 6 (S'.pin++Eh),?_⟩;rw[<-Sb];exact hQ _ _ (h1.trans (BE.clean _ _)) h2
 |.seq a b,S,K,r,Q,h,hQ=>by
  refine DY (x:=a) (show Fu a S _=some r from h) fun e S' hk h'=>?_
  cases e with
  |n=>exact DY (x:=b) h' fun e S2 hk2 h2=>hQ _ _ (hk.trans hk2) h2|x i=>exact hQ _ _ hk h'|r=>exact hQ _ _ hk h'
 |.join c a b,S,K,r,Q,h,hQ=>by
  refine DY (x:=a) (show Fu a S _=some r from h) fun e S' hk h'=>?_
  cases e with
  |n=>
   dsimp only at h' ⊢;split at h'
   .rename_i x hx;have h':(c.st S S' x).force (fun S=>Fu b S K)=some r:=by rw[<-ANR (fun x=>(c.st S S' x).force fun S=>Fu b S K) x];exact h'
    rw[force_eq]at h';obtain⟨h3,_,_⟩:=nD (R:=R) hx (Dd.of hk);rw[<-h3];refine DY (x:=b) h' fun e S2 hk2 h2=>hQ _ _ ?_ h2
    exact(BE.st hk).trans hk2
   .cases h'
  |x i=>exact hQ _ _ hk h'|r=>exact hQ _ _ hk h'
 |.cond c kt ke t e,S,K,r,Q,h,hQ=>by
  simp only[Fu]at h;split at h
  .rename_i b hb;have hs:=Lg (R:=R) hb;simp only[YO.er,U.fg]at hs;rcases ADS h with ⟨rfl,h'⟩|⟨rfl,h'⟩
   .rw[force_eq]at h';refine⟨true,hs,S.clo 6 (S.pin++kt),?_⟩;rw[if_pos rfl,<-Sb];exact DY (x:=t) h' fun e S2 hk2 h2=>hQ _ _ ((BE.clean _ _).trans hk2) h2
   .rw[force_eq]at h';refine⟨false,hs,S.clo 6 (S.pin++ke),?_⟩;rw[if_neg (by simp),<-Sb];exact DY (x:=e) h' fun e S2 hk2 h2=>hQ _ _ ((BE.clean _ _).trans hk2) h2
  .cases h
 |.block id b,S,K,r,Q,h,hQ=>by
  refine DY (x:=b) (show Fu b S _=some r from h) fun e S' hk h'=>?_
  cases e with
  |n=>exact hQ _ _ hk h'|x i=>
   dsimp only at h' ⊢;split at h'
   .rename_i hi;rw[if_pos hi];exact hQ _ _ hk h'
   .rename_i hi;rw[if_neg hi];exact hQ _ _ hk h'
  |r=>exact hQ _ _ hk h'
 |.loop c b,S,K,r,Q,h,hQ=>by
  simp only[Fu]at h;split at h
  .rename_i x0 hx0;have key:∀(n:Nat) (x:TA c.as),Aw (fun L x=>(c.st S S x).force fun S1=>Fu b S1 fun e S'=>match e with
    |.n=>if LA S.tm S'.tm=true/\LA S.bx S'.bx=true then (match c.fit S S' with|some y=>L y|none=>none) else none
    |.x i=>K (.x i) S'|.r=>K .r S') n x=some r->AGP (wp Hb b.er) n ((c.st S S x).fg R) Q:=by
    intro n
    induction n with
    |zero=>intro x h;rw[AGQ]at h;cases h
    |succ n ih=>
     intro x h;rw[HN]at h;rw[force_eq]at h;refine DY (x:=b) h fun e S' hk h'=>?_
     have hS:BE S (c.st S S x):=BE.st (BE.refl S);cases e with
     |n=>
      dsimp only at h' ⊢;split at h'
      .rename_i hsk;split at h'
       .rename_i y hy;rw[<-kv hy (Dd.round hk) hsk.1 hsk.2];exact ih y h'
       .cases h'
      .cases h'
     |x i=>exact hQ _ _ (hS.trans hk) h'|r=>exact hQ _ _ (hS.trans hk) h'
   refine⟨big,?_⟩;obtain⟨h3,_,_⟩:=nD (R:=R) hx0 (Dd.of (BE.refl S));rw[<-h3];exact key big x0 h
  .cases h
 |.exit id,S,K,r,Q,h,hQ=>hQ _ _ (BE.refl _) h|.ret,S,K,r,Q,h,hQ=>hQ _ _ (BE.refl _) h|.scope b,S,K,r,Q,h,hQ=>DY (x:=b) (show Fu b S K=some r from h) hQ|.or a b,S,K,r,Q,h,hQ=>(AS5 (show orX (Fu a S K) (Fu b S K)=some r from h)).elim (fun h=>.inl (DY (x:=a) h hQ)) fun h=>.inr (DY (x:=b) h hQ)|.dead,S,K,r,Q,h,hQ=>by cases h
 |.AQ6 c b,S00,K,r,Q,h,hQ=>by
  refine⟨big+1,?_⟩;refine DY (x:=b) (show Fu b S00 _=some r from h) fun e S hk0 h=>?_
  cases e with
  |n=>
   dsimp only at h ⊢;split at h
   .rename_i x0 hx0;have key:∀(n:Nat) (x:TA c.as),Aw (fun L x=>(c.st S S x).force fun S1=>Fu b S1 fun e S'=>match e with
     |.n=>if LA S.tm S'.tm=true/\LA S.bx S'.bx=true then (match c.fit S S' with|some y=>L y|none=>none) else none
     |.x i=>K (.x i) S'|.r=>K .r S') n x=some r->AGP (wp Hb b.er) n ((c.st S S x).fg R) Q:=by
     intro n
     induction n with
     |zero=>intro x h;rw[AGQ]at h;cases h
     |succ n ih=>
      intro x h;rw[HN]at h;rw[force_eq]at h;refine DY (x:=b) h fun e S' hk h'=>?_
      have hS:BE S (c.st S S x):=BE.st (BE.refl S);cases e with
      |n=>
       dsimp only at h' ⊢;split at h'
       .rename_i hsk;split at h'
        .rename_i y hy;rw[<-kv hy (Dd.round hk) hsk.1 hsk.2];exact ih y h'
        .cases h'
       .cases h'
      |x i=>exact hQ _ _ (hk0.trans (hS.trans hk)) h'|r=>exact hQ _ _ (hk0.trans (hS.trans hk)) h'
    obtain⟨h3,_,_⟩:=nD (R:=R) hx0 (Dd.of (BE.refl S));rw[<-h3];exact key big x0 h
   .cases h
  |x i=>exact hQ _ _ hk0 h|r=>exact hQ _ _ hk0 h
end
end Y
end Lv
namespace Lv
open Go (IntKind BinOp UnOp)
namespace Y
section
variable{R:List GF}{ρ:Type}
def ATh:C->Bool|.st _=>true|.un _=>true|_=>false
def re:List (Bool×C)->Bool| []=>true|(true,_)::r=>re r|(false,c)::r=>(!ATh c&&decide (c≠.m))&&re r
def yA:List PK->Bool| []=>true|.f _ l::r=>re l&&yA r|_::r=>yA r
theorem mb(i:Nat):∀(l:List (Bool×C)) (x:mO l),re l=true->Lv.Lr i (O0 l x)=some ((Lr i l x).map Cap.fg)
 | [],x,h=>rfl|(true,c)::l,x,h=>by
  have ih:=mb i l x.2 h;simp only[O0,Lv.Lr,Lr,AI,Cap.fg];rw[ih,EX];rfl
 |(false,c)::l,x,h=>by
  simp only[re,AD,Az,decide_eq_true_eq]at h;have ih:=mb i l x.2 h.2;cases c with
  |st n=>cases h.1.1
  |un n=>cases h.1.1
  |m=>exact(h.1.2 rfl).elim|_=>
   simp only[O0,enc,Lv.Lr,Lr,cells,AI,ih];rfl
theorem APP(c:C)(x:c.D):Ey (shC c) (enc c x).length=true:=by
 rw[LV];cases c<;>rfl
theorem K0:∀(ks:List PK) (i:Nat) (fs:List Nat) (a:A ks) (S:St),yA ks=true->fs.map (fun n=>(R[n]?).map GF.x)=(fX ks).map some ->
 Lv.initK i (ks.map PK.md) (aVs ks a) (S.fg R)=some ((initK i fs ks a S).fg R)
 | [],i,fs,a,S,_,_=>rfl|k::ks,i,fs,a,S,hp,hf=>by
  obtain⟨a1,a2⟩:=a;cases k with
  |v c=>
   have hE:enc c a1=(cells c a1).map U.fg:=EX c a1;have ih:=K0 ks (i+1) fs a2 (S.IC i (shC c) ((cells c a1).map (Db i))) hp hf;rw[JP,M7,<-hE]at ih;exact ih
  |p c=>
   have hE:enc c a1=(cells c a1).map U.fg:=EX c a1;have ih:=K0 ks (i+1) fs a2 (S.IC i .one [.vp (.old i) (cells c a1)]) hp hf;rw[JP]at ih;simp only[AI,BC,AP.fg]at ih;rw[<-hE]at ih;exact ih
  |b c=>
   have hE:enc c a1=(cells c a1).map U.fg:=EX c a1;have ih:=K0 ks (i+1) fs a2 (let S1:=(S.IC i .one [.bp i 0]).LJ i ((cells c a1).map (Db i));⟨S1.tm,S1.bx,i::S1.pin,S1.nv⟩) hp hf;have e:(let S1:=(S.IC i .one [.bp i 0]).LJ i ((cells c a1).map (Db i));(⟨S1.tm,S1.bx,i::S1.pin,S1.nv⟩:St)).fg R={ S.fg R with tm:=Lv.put (S.fg R).tm i ⟨.one,[.bp i 0]⟩,bx:=Lv.put (S.fg R).bx i ((enc c a1).map (Lv.Db i)),pin:=i::(S.fg R).pin}:=by
    have h1:=QP (R:=R) (S.IC i .one [.bp i 0]) i ((cells c a1).map (Db i));rw[JP,M7,<-hE]at h1;have h2:=congrArg Lv.St.tm h1;have h3:=congrArg Lv.St.bx h1;simp only[St.fg]at h2 h3 ⊢;rw[h2,h3];rfl
   rw[e]at ih;exact ih
  |o c=>
   have hE:enc c a1=(cells c a1).map U.fg:=EX c a1;have ih:=K0 ks (i+1) fs a2 (S.IC i (shC c) ((cells c a1).map Ht)) hp hf;rw[JP,WU,<-hE]at ih;exact ih
  |m c=>
   have hE:enc c a1=(cells c a1).map U.fg:=EX c a1;have ih:=K0 ks (i+1) fs a2 (let S1:=S.IC i (shC c) ((cells c a1).map Ht);⟨S1.tm,S1.bx,i::S1.pin,S1.nv⟩) hp hf;have e:(let S1:=S.IC i (shC c) ((cells c a1).map Ht);(⟨S1.tm,S1.bx,i::S1.pin,S1.nv⟩:St)).fg R={ S.fg R with tm:=Lv.put (S.fg R).tm i ⟨shC c,(enc c a1).map Lv.Ht⟩,pin:=i::(S.fg R).pin}:=by
    have h1:=JP (R:=R) S i (shC c) ((cells c a1).map Ht);rw[WU,<-hE]at h1;have h2:=congrArg Lv.St.tm h1;simp only[St.fg]at h2 ⊢;rw[h2];rfl
   rw[e]at ih;have hs:Ey (shC c) (enc c a1).length=true:=APP c a1;show (if Ey (shC c) (enc c a1).length=true then _ else none)=_;rw[if_pos hs];exact ih
  |f x l=>
   simp only[yA,AD]at hp;cases fs with
   |nil=>simp[fX]at hf|cons n fs=>
    simp only[fX,AI,C1]at hf;have hx:xr R n=x:=by
     unfold xr;cases hr:R[n]? with
     |none=>rw[hr]at hf;simp at hf|some g=>rw[hr]at hf;simpa using hf.1
    have ih:=K0 ks (i+1) fs a2 (S.IC i .one [.fn n (Lr i l a1)]) hp.2 hf.2;rw[JP]at ih;have hc:Lv.Lr i (O0 l a1)=some ((Lr i l a1).map Cap.fg):=mb i l a1 hp.1;show (match Lv.Lr i (O0 l a1) with|some ls=>Lv.initK (i+1) _ _ _|none=>none)=_;rw[hc];simp only[AI,BC,AP.fg,hx]at ih;exact ih
theorem KM:∀{rs:List G0} {S:St} {K:List (Option Nat)->List AP->Option ρ} {r:ρ},Jk rs S K=some r->∃ns ls,Lv.Jk rs (S.fg R)=some (ns,ls.map (AP.fg R))/\K ns ls=some r
 | [],S,K,r,h=>⟨[],[],rfl,h⟩|.tmp t::rs,S,K,r,h=>by
  simp only[Jk]at h;split at h
  .rename_i e he;split at h
   .rename_i hs;obtain⟨ns,ls,h1,h2⟩:=KM h;refine⟨_,_,?_,h2⟩;have:=I6 (R:=R) he;simp only[YO.er]at this;simp only[Lv.Jk,this,h1,En.fg,An,hs,if_true,CO];rfl
   .cases h
  .cases h
 |.cell t n::rs,S,K,r,h=>by
  simp only[Jk]at h;split at h
  .rename_i id o he;obtain⟨ls',h1,h⟩:=N9 (R:=R) h;obtain⟨ns,ls,h2,h3⟩:=KM h;refine⟨_,_,?_,h3⟩;have:=EE (R:=R) he;simp only[YO.er,AP.fg]at this h1;simp only[Lv.Jk,this,h1,h2,CO]
  .cases h
 |.bx _::rs,S,K,r,h=>by cases h
 |.vw _ _::rs,S,K,r,h=>by cases h
 |.un _ _::rs,S,K,r,h=>by cases h
theorem lT:∀{ls:List AP},K4 ls=true->Lv.K4 (ls.map (AP.fg R))=true
 | [],_=>rfl|l::ls,h=>by
  simp only[K4,AD]at h;simp only[AI,Lv.K4,AD];refine⟨?_,lT h.2⟩;have h1:=h.1
  grind[AP.fg,eU]
theorem ARK{rk:RK}{rs:List G0}{S:St}{K:St->List U->Option ρ}{r:ρ}(h:Xo rk rs S K=some r):∃S' us,Lv.Xo rs (S.fg R)=some (S'.fg R,rk.sh,us.map U.fg)/\K S' us=some r:=by
 unfold Xo at h;split at h
 .rename_i k c t;split at h
  .rename_i id he;have h1:=EE (R:=R) he;simp only[YO.er,AP.fg]at h1;split at h
   .rename_i ls hl;split at h
    .cases h
    .rename_i hp;split at h
     .rename_i hk;split at h
      .rename_i us hu;subst hk;refine⟨S,us,?_,h⟩;have hp':id∉(S.fg R).pin:=fun hh=>hp (mem_iff.2 hh)
       simp only[Lv.Xo,h1,Mx,hl,Ab,K1,MV hu];rw[if_neg hp'];rfl
      .cases h
     .cases h
   .cases h
  .cases h
 .rename_i k c t k';split at h
  .rename_i hk;subst hk;split at h
   .rename_i k'' c' xs he;have h1:=EE (R:=R) he;simp only[YO.er,AP.fg]at h1;split at h
    .rename_i hk;subst hk;exact⟨S,_,by simp only[Lv.Xo,h1,if_true];rfl,h⟩
    .cases h
   .rename_i q sub he;have h1:=EE (R:=R) he;simp only[YO.er,AP.fg]at h1;split at h
    .rename_i x hx;refine⟨_,_,?_,h⟩;simp only[Lv.Xo,h1,Ic,hx,Ab,AP.fg,Wd,AI,BC,U1];rfl
    .cases h
   .cases h
  .cases h
 .rename_i n c cs t n' r' rs;split at h
  .rename_i hn';subst hn';split at h
   .rename_i id o he;have he':=EE (R:=R) he;obtain⟨ls',h0,h⟩:=N9 (R:=R) h;simp only[YO.er,AP.fg]at he' h0;split at h
    .rename_i hp;obtain⟨ns,ls,h1,h⟩:=KM (R:=R) h;split at h
     .rename_i hn;split at h
      .rename_i S' us hu;obtain⟨h2,_⟩:=JO (R:=R) hu;refine⟨S',_,?_,h⟩;simp only[Lv.Xo,he',h0];rw[if_pos (lT hp),h1];dsimp only;rw[h2,hn];simp only[CO,FT];rfl
      .cases h
     .cases h
    .cases h
   .cases h
  .cases h
 .rename_i cs;obtain⟨ns,ls,h1,h⟩:=KM (R:=R) h;split at h
  .rename_i hn;split at h
   .rename_i S' us hu;obtain⟨h2,_⟩:=JO (R:=R) hu;refine⟨S',us,?_,h⟩;have:Lv.Xo rs (S.fg R)=match Lv.Jk rs (S.fg R) with
     |some (ns,ls)=>(match Lv.Cv (S.fg R) ls with|some (S',cs)=>some (S',yb ns,cs)|none=>none)
     |none=>none:=by
     rcases rs with _|⟨a,_|⟨b,rs⟩⟩
     .rfl
     .cases a<;>first|rfl|(simp[Lv.Jk]at h1)
     .cases a<;>first|rfl|(simp[Lv.Jk]at h1)
    rw[this,h1];dsimp only;rw[h2,hn];rfl
   .cases h
  .cases h
 .cases h
theorem AS6{l:AP}{u:U}(h:owT l=some u):Lv.owT (AP.fg R l)=some u.fg:=by
 cases l with
 |ow x=>cases h;rfl
 |t x=>
  grind[owT,AP.fg,Lv.owT,eU]
 |_=>cases h
theorem AGW:∀{ls:List AP} {us:List U},Xn ls=some us->Lv.Xn (ls.map (AP.fg R))=some (us.map U.fg)/\us.length=ls.length
 | [],us,h=>by cases h;exact⟨rfl,rfl⟩
 |l::ls,us,h=>by
  simp only[Xn]at h;split at h
  .rename_i x xs h1 h2;cases h;obtain⟨h3,h4⟩:=AGW h2;simp only[AI,Lv.Xn,AS6 h1,h3,Ao,h4];exact⟨trivial,trivial⟩
  .cases h
theorem YR{k:Nat}:∀{ls:List AP} {us:List U},Ee k ls=some us->us.length=ls.length
 | [],us,h=>by cases h;rfl
 |l::ls,us,h=>by
  simp only[Ee]at h;split at h
  .rename_i x xs h1 h2;cases h;simp only[Ao,YR h2]
  .cases h
def chunks:List C->List U->List (List U)| [],_=>[]|c::cs,us=>us.take c.size::chunks cs (us.drop c.size)
theorem YY:∀(cs:List C) (us:List U),(chunks cs us).length=cs.length| [],_=>rfl|c::cs,us=>by simp only[chunks,Ao,YY cs]
theorem W5:∀(cs:List C) (us:List U),us.length=RA cs->(chunks cs us).flatten=us
 | [],us,h=>by cases us with|nil=>rfl|cons u us=>cases h
 |c::cs,us,h=>by
  simp only[RA]at h;simp only[chunks,List.flatten_cons];rw[W5 cs _ (by rw[CU];omega),Gb]
theorem YX:∀(cs ds:List C) (us os:List U),us.length=RA cs->chunks (cs++ds) (us++os)=chunks cs us++chunks ds os
 | [],ds,us,os,h=>by cases us with|nil=>rfl|cons u us=>cases h
 |c::cs,ds,us,os,h=>by
  simp only[RA]at h;simp only[List.cons_append,chunks];rw[List.take_append_of_le_length (by omega),List.drop_append_of_le_length (by omega),YX cs ds _ os (by rw[CU];omega)]
theorem fK:∀{cs:List C} {us:List U} {x:Tu cs},ofT cs us=some x->Ns cs x=(chunks cs us).map (List.map U.fg)
 | [],us,x,h=>rfl| [c],us,x,h=>by
  have h':ofC c us=some x:=h;show [enc c x]=_;rw[Gy h'];simp only[chunks,AI,BC];rw[List.take_of_length_le (by rw[AQ2 h'];exact A2 _)]
 |c::c'::cs,us,x,h=>by
  simp only[ofT]at h;split at h
  .rename_i a b h1 h2;cases h;show enc c a::Ns (c'::cs) b=_;rw[Gy h1,fK h2];rfl
  .cases h
theorem JI{S:St}:∀{ks:List PK} {i:Nat} {os:List U},EN i ks S=some os->Lv.EN i (ks.map PK.md) (S.fg R)=some ((chunks (JG ks) os).map (List.map U.fg))/\os.length=RA (JG ks)
 | [],i,os,h=>by cases h;exact⟨rfl,rfl⟩
 |.b c::ks,i,os,h=>by
  simp only[EN]at h;split at h
  .rename_i ls os' h1 h2;obtain⟨h3,h4⟩:=JI (ks:=ks) h2;split at h
   .rename_i hc;split at h
    .rename_i us hu;cases h;have hl:us.length=c.size:=by rw[YR hu,hc.2]
     have hp:i∈(S.fg R).pin:=mem_iff.1 hc.1;refine⟨?_,by simp only[BM,JG,RA,hl,h4]⟩;simp only[AI,PK.md,Lv.EN,Mx,h1,Ab,h3,JG,chunks];rw[if_pos hp,MV hu,EA hl,C2 hl];rfl
    .cases h
   .cases h
  .cases h
 |.m c::ks,i,os,h=>by
  simp only[EN]at h;split at h
  .rename_i e os' h1 h2;obtain⟨h3,h4⟩:=JI (ks:=ks) h2;split at h
   .rename_i hc;split at h
    .rename_i us hu;cases h;obtain⟨h5,h6⟩:=AGW (R:=R) hu;have hl:us.length=c.size:=by rw[h6,hc.2.2]
     have hp:i∈(S.fg R).pin:=mem_iff.1 hc.1;refine⟨?_,by simp only[BM,JG,RA,hl,h4]⟩;simp only[AI,PK.md,Lv.EN,UA,h1,Ab,h3,JG,chunks,Ent.fg,An];rw[if_pos ⟨hp,hc.2.1⟩,h5,EA hl,C2 hl];rfl
    .cases h
   .cases h
  .cases h
 |.v c::ks,i,os,h=>JI (ks:=ks) h|.p c::ks,i,os,h=>JI (ks:=ks) h|.o c::ks,i,os,h=>JI (ks:=ks) h|.f x l::ks,i,os,h=>JI (ks:=ks) h
theorem w5:∀(cs:List C) (x:Tu cs),(Ns cs x).map List.length=cs.map C.size
 | [],x=>rfl| [c],x=>congrArg (fun n=>[n]) (LV c x)|c::c'::cs,x=>by
  obtain⟨a,b⟩:=x;show (enc c a).length::(Ns (c'::cs) b).map List.length=_;rw[w5 (c'::cs) b,LV];rfl
theorem JH:∀(ks:List PK) (a:A ks) (os:List (List T)),os.map List.length=(JG ks).map C.size->Lv.FG (ks.map PK.md) (aVs ks a) os=true
 | [],a,[],h=>rfl| [],a,o::os,h=>by cases h
 |.b c::ks,a,[],h=>by cases h
 |.b c::ks,a,o::os,h=>by
  obtain⟨a1,a2⟩:=a;simp only[JG,AI,C1]at h;have hl:(enc c a1).length=c.size:=LV c a1;show (o.length==(enc c a1).length&&Lv.FG (ks.map PK.md) (aVs ks a2) os)=true;rw[hl,h.1,JH ks a2 os h.2];simp
 |.m c::ks,a,[],h=>by cases h
 |.m c::ks,a,o::os,h=>by
  simp only[JG,AI,C1]at h;exact JH ks a.2 os h.2
 |.v c::ks,a,os,h=>JH ks a.2 os h|.p c::ks,a,os,h=>JH ks a.2 os h|.o c::ks,a,os,h=>JH ks a.2 os h|.f x l::ks,a,os,h=>JH ks a.2 os h
end
def YF.er(f:YF):Bz:=.mk (f.ps.map PK.md) f.rs f.body.er
theorem za{f:YF}{S:St}{r:Tu (f.rk.cs++JG f.ps)}(h:fin f.ps f.rk f.rs S=some r) :
 Lv.fin (f.ps.map PK.md) f.rs (S.fg f.R) f.rk.sh ((Ns _ r).take f.rk.cs.length).flatten ((Ns _ r).drop f.rk.cs.length):=by
 unfold fin at h;obtain⟨S',us,h1,h⟩:=ARK (R:=f.R) h;split at h
 .rename_i os ho;split at h
  .rename_i hl;obtain⟨h2,h3⟩:=JI (R:=f.R) ho;have h4:=fK h;rw[YX _ _ _ _ hl,CO]at h4;have hlen:((chunks f.rk.cs us).map (List.map U.fg)).length=f.rk.cs.length:=by rw[An,YY]
   rw[h4,EA hlen,C2 hlen];refine⟨S'.fg f.R,?_,h2⟩;rw[h1,<-IM,W5 _ _ hl]
  .cases h
 .cases h
theorem YF.sound{f:YF}(hp:yA f.ps=true)(hf:f.fs.map (fun n=>(f.R[n]?).map GF.x)=(fX f.ps).map some){a:A f.ps}{r:Tu (f.rk.cs++JG f.ps)}(h:f.run a=some r) :
 Hb f.er (aVs f.ps a) f.rk.sh ((Ns _ r).take f.rk.cs.length).flatten ((Ns _ r).drop f.rk.cs.length):=by
 unfold YF.run at h;rw[force_eq]at h;refine .intro ⟨_,K0 (R:=f.R) f.ps 0 f.fs a ⟨[],[],[],0⟩ hp hf,?_,?_⟩
 .grind[DY,za]
 grind[JH,w5,JG,List.map_drop,List.drop_left',List.length_map]
def YF.gf(f:YF)(hp:yA f.ps=true)(hf:f.fs.map (fun n=>(f.R[n]?).map GF.x)=(fX f.ps).map some)(d:A f.ps->Option (Tu (f.rk.cs++JG f.ps)))(hd:∀a,f.run a=d a):GF:=
 ⟨f.er,f.ps,f.rk,d,rfl,fun a r h=>YF.sound hp hf ((hd a).trans h)⟩
end Y
end Lv
namespace Lv
open Y
open Go
def ic(c:C)(xs:List c.D)(i:Int)(ys:List c.D):Option (List c.D):=
 if 0<=i/\i.toNat<=xs.length/\ys≠[]/\xs.length+ys.length<=lim then some (xs.take i.toNat++ys++xs.drop i.toNat) else none
theorem ANN{c:C}(hf:Qy c=true)(xs:List c.D)(i:Int)(ys:List c.D)(r:List c.D)(h:ic c xs i ys=some r) :
 Hb (.Hh (2*c.size) [.o,.v,.v]) [.o .one (enc (.l c) xs),.v .one (enc .i i),.v .one (enc (.l c) ys)] .one (enc (.l c) r) []:=by
 unfold ic at h;split at h
 .rename_i hc;cases h;intro Rn hRn;refine hRn _ _ _ _ _ ?_;show Qt (2*c.size) _ _ _ _;unfold Qt;refine⟨by omega,?_⟩;rw[if_pos (by omega)];refine⟨_,xs.map (enc c),_,ys.map (enc c),i,rfl,rfl,?_,rfl,?_,HC hf _,HC hf _,hc.1,by simpa using hc.2.1,by simpa using hc.2.2.1,by simpa using hc.2.2.2,rfl,?_,rfl⟩
  .simp[eOf]
  .simp[eOf]
  .show [T.sl c.size ((xs.take i.toNat++ys++xs.drop i.toNat).map (enc c))]=_;simp[CF,B2]
 .cases h
def ASr(c:C)(hf:Qy c=true):GF:=
 ⟨.Hh (2*c.size) [.o,.v,.v],[.o (.l c),.v .i,.v (.l c)],.ret [.l c],fun a=>ic c a.1 a.2.1 a.2.2.1,rfl,fun a r h=>ANN hf _ _ _ r h⟩
def wy(c:C)(xs:List c.D)(i j:Int):Option (List c.D):=
 if 0<=i/\i<j/\j<=xs.length then some (xs.take i.toNat++xs.drop j.toNat) else none
theorem ALK{c:C}(hf:Qy c=true)(hs:decide (0<c.size)=true)(xs:List c.D)(i j:Int)(r:List c.D)(h:wy c xs i j=some r) :
 Hb (.Hh (2*c.size+1) [.o,.v,.v]) [.o .one (enc (.l c) xs),.v .one (enc .i i),.v .one (enc .i j)] .one (enc (.l c) r) []:=by
 unfold wy at h;split at h
 .rename_i hc;cases h;intro Rn hRn;refine hRn _ _ _ _ _ ?_;show Qt (2*c.size+1) _ _ _ _;unfold Qt;have e1:(2*c.size+1) / 2=c.size:=by omega
  have hs:=of_decide_eq_true hs;refine⟨by omega,?_⟩;rw[if_neg (by omega),e1];refine⟨xs.map (enc c),i,j,rfl,HC hf _,hc.1,hc.2.1,by simpa using hc.2.2,rfl,?_,rfl⟩;show [T.sl c.size ((xs.take i.toNat++xs.drop j.toNat).map (enc c))]=_;simp[CF,B2]
 .cases h
def ASg(c:C)(hf:Qy c=true)(hs:decide (0<c.size)=true):GF:=
 ⟨.Hh (2*c.size+1) [.o,.v,.v],[.o (.l c),.v .i,.v .i],.ret [.l c],fun a=>wy c a.1 a.2.1 a.2.2.1,rfl,fun a r h=>ALK hf hs _ _ _ r h⟩
structure rI(ps:List PK)(rk:RK) where
 x:Bz
 d:A ps->Option (Tu (rk.cs++JG ps))
 ms:Dp x=ps.map PK.md
 ok:∀a r,d a=some r->Hb x (aVs ps a) rk.sh ((Ns _ r).take rk.cs.length).flatten ((Ns _ r).drop rk.cs.length)
def rI.gf{ps:List PK}{rk:RK}(r:rI ps rk):GF:=⟨r.x,ps,rk,r.d,r.ms,r.ok⟩
def rI.of(g:GF):rI g.ps g.rk:=⟨g.x,g.d,g.ms,g.ok⟩
def rI.nil(ps:List PK)(rk:RK):rI ps rk:=⟨.Hh 1 (ps.map PK.md),fun _=>none,rfl,fun _ _ h=>by cases h⟩
end Lv
namespace Lv
open Go (IntKind BinOp UnOp)
section
variable{a b c d e f g h:Type}
def Bh(k:a->h)(x:a×b):h:=k x.1
def Ak(k:a->b->h)(x:a×b×c):h:=k x.1 x.2.1
def GJ(k:a->b->c->h)(x:a×b×c×d):h:=k x.1 x.2.1 x.2.2.1
def SL(k:a->b->c->d->h)(x:a×b×c×d×e):h:=k x.1 x.2.1 x.2.2.1 x.2.2.2.1
def APp(k:a->b->c->d->e->h)(x:a×b×c×d×e×f):h:=k x.1 x.2.1 x.2.2.1 x.2.2.2.1 x.2.2.2.2.1
def ADI(k:a->b->c->d->e->f->h)(x:a×b×c×d×e×f×g):h:=k x.1 x.2.1 x.2.2.1 x.2.2.2.1 x.2.2.2.2.1 x.2.2.2.2.2.1
end
namespace Y
def YF.Dx(f:YF)(d:A f.ps->Option (Tu (f.rk.cs++JG f.ps)))(hd:∀a,f.run a=d a:=by intro a;kernel_rfl)(hp:yA f.ps=true:=by rfl)(hf:f.fs.map (fun n=>(f.R[n]?).map GF.x)=(fX f.ps).map some:=by rfl):GF:=f.gf hp hf d hd
end Y
def APq{γ:Type}(x y:D8)(X:Option γ):Option γ:=eqv x.Data y.Data (eqv x.Safe y.Safe X)
theorem Xg{γ:Type}(x:D8)(X:Option γ):APq x x X=X:=by unfold APq;simp only[Cz]
def OY{γ:Type}(x y:BK)(X:Option γ):Option γ:=eqv x.Code y.Code (eqv x.Ids y.Ids X)
theorem rA{γ:Type}(x:BK)(X:Option γ):OY x x X=X:=by unfold OY;simp only[Cz]
def ARW{γ:Type}(x y:DL)(X:Option γ):Option γ:=eqv x.UP y.UP (eqv x.at_ y.at_ (eqv x.AG4 y.AG4 X))
def AGs{γ:Type}(x y:NT)(X:Option γ):Option γ:=eqv x.b_ y.b_ (eqv x.i_ y.i_ (eqv x.h_ y.h_ X))
theorem rC{γ:Type}(x:NT)(X:Option γ):AGs x x X=X:=by unfold AGs;simp only[Cz]
def qv{γ:Type}(x y:AQ)(X:Option γ):Option γ:=eqv x.Level y.Level (eqv x.Ai y.Ai (eqv x.Id y.Id (eqv x.A1 y.A1 X)))
theorem qy{γ:Type}(x:AQ)(X:Option γ):qv x x X=X:=by unfold qv;simp only[Cz]
def AR7{γ:Type}(x y:Bw)(X:Option γ):Option γ:=eqv x.Kind y.Kind (eqv x.Id y.Id (eqv x.AT y.AT (eqv x.BQ y.BQ (eqv x.A1 y.A1 (eqv x.CT y.CT X)))))
theorem g9{γ:Type}(x:Bw)(X:Option γ):AR7 x x X=X:=by unfold AR7;simp only[Cz]
def rB{γ:Type}(x y:Dc)(X:Option γ):Option γ:=eqv x.Log.Data y.Log.Data (eqv x.Log.Safe y.Log.Safe (eqv x.G1.Data y.G1.Data (eqv x.G1.Safe y.G1.Safe (eqv x.Odd.Data y.Odd.Data (eqv x.Odd.Safe y.Odd.Safe X)))))
theorem U8{γ:Type}(x:Dc)(X:Option γ):rB x x X=X:=by unfold rB;simp only[Cz]
def B1{γ:Type}(x y:AV)(X:Option γ):Option γ:=eqv x.AR y.AR (eqv x.Cg y.Cg (eqv x.Room y.Room (eqv x.A1 y.A1 (eqv x.CA y.CA (eqv x.Bq y.Bq (eqv x.Rest y.Rest (eqv x.Cc y.Cc (eqv x.Cu y.Cu X))))))))
theorem OZ{γ:Type}(x:AV)(X:Option γ):B1 x x X=X:=by unfold B1;simp only[Cz]
def Iz{γ:Type}(x y:AJ)(X:Option γ):Option γ:=eqv x.Id y.Id (eqv x.AT y.AT (eqv x.BQ y.BQ (eqv x.A1 y.A1 (eqv x.CT y.CT (eqv x.Since y.Since (eqv x.Ai y.Ai (eqv x.State y.State (eqv x.CB y.CB (eqv x.CX y.CX X)))))))))
theorem Ez{γ:Type}(x:AJ)(X:Option γ):Iz x x X=X:=by unfold Iz;simp only[Cz]
def Ll{γ:Type}(x y:AE)(X:Option γ):Option γ:=eqv x.AO.AR y.AO.AR (eqv x.AO.Cg y.AO.Cg (eqv x.AO.Room y.AO.Room (eqv x.AO.A1 y.AO.A1 (eqv x.AO.CA y.AO.CA (eqv x.AO.Bq y.AO.Bq (eqv x.AO.Rest y.AO.Rest (eqv x.AO.Cc y.AO.Cc (eqv x.AO.Cu y.AO.Cu (eqv x.Now y.Now (eqv x.Ai y.Ai (eqv x.AG y.AG (eqv x.AH y.AH (eqv x.A0 y.A0 (eqv x.Ay y.Ay X))))))))))))))
theorem OX{γ:Type}(x:AE)(X:Option γ):Ll x x X=X:=by unfold Ll;simp only[Cz]
def yv{γ:Type}(x y:Be)(X:Option γ):Option γ:=eqv x.BD.AO.AR y.BD.AO.AR (eqv x.BD.AO.Cg y.BD.AO.Cg (eqv x.BD.AO.Room y.BD.AO.Room (eqv x.BD.AO.A1 y.BD.AO.A1 (eqv x.BD.AO.CA y.BD.AO.CA (eqv x.BD.AO.Bq y.BD.AO.Bq (eqv x.BD.AO.Rest y.BD.AO.Rest (eqv x.BD.AO.Cc y.BD.AO.Cc (eqv x.BD.AO.Cu y.BD.AO.Cu (eqv x.BD.Now y.BD.Now (eqv x.BD.Ai y.BD.Ai (eqv x.BD.AG y.BD.AG (eqv x.BD.AH y.BD.AH (eqv x.BD.A0 y.BD.A0 (eqv x.BD.Ay y.BD.Ay (eqv x.CY.Log.Data y.CY.Log.Data (eqv x.CY.Log.Safe y.CY.Log.Safe (eqv x.CY.G1.Data y.CY.G1.Data (eqv x.CY.G1.Safe y.CY.G1.Safe (eqv x.CY.Odd.Data y.CY.Odd.Data (eqv x.CY.Odd.Safe y.CY.Odd.Safe (eqv x.Seq y.Seq (eqv x.Laid y.Laid X))))))))))))))))))))))
theorem RL{γ:Type}(x:Be)(X:Option γ):yv x x X=X:=by unfold yv;simp only[Cz]
def Di:List U:=[.nil,.int .i64 0,.int .i64 0,.int .i64 0,.int .i64 0,.int .i64 0,.int .i64 0,.int .i64 0,.int .i64 0,.int .i64 0,.int .i64 0,.nil,.nil,.nil,.nil]
def ev2{α0 α1 γ:Type}(a0:α0)(a1:α1)(X:Option γ):Option γ:=eqv a0 a0 (eqv a1 a1 X)
theorem Vp{α0 α1 γ:Type}(a0:α0)(a1:α1)(X:Option γ):ev2 a0 a1 X=X:=by unfold ev2;simp only[Cz]
def ev3{α0 α1 α2 γ:Type}(a0:α0)(a1:α1)(a2:α2)(X:Option γ):Option γ:=eqv a0 a0 (eqv a1 a1 (eqv a2 a2 X))
theorem Vq{α0 α1 α2 γ:Type}(a0:α0)(a1:α1)(a2:α2)(X:Option γ):ev3 a0 a1 a2 X=X:=by unfold ev3;simp only[Cz]
def ev4{α0 α1 α2 α3 γ:Type}(a0:α0)(a1:α1)(a2:α2)(a3:α3)(X:Option γ):Option γ:=eqv a0 a0 (eqv a1 a1 (eqv a2 a2 (eqv a3 a3 X)))
theorem Vr{α0 α1 α2 α3 γ:Type}(a0:α0)(a1:α1)(a2:α2)(a3:α3)(X:Option γ):ev4 a0 a1 a2 a3 X=X:=by unfold ev4;simp only[Cz]
def ev5{α0 α1 α2 α3 α4 γ:Type}(a0:α0)(a1:α1)(a2:α2)(a3:α3)(a4:α4)(X:Option γ):Option γ:=eqv a0 a0 (eqv a1 a1 (eqv a2 a2 (eqv a3 a3 (eqv a4 a4 X))))
theorem Vt{α0 α1 α2 α3 α4 γ:Type}(a0:α0)(a1:α1)(a2:α2)(a3:α3)(a4:α4)(X:Option γ):ev5 a0 a1 a2 a3 a4 X=X:=by unfold ev5;simp only[Cz]
def ev6{α0 α1 α2 α3 α4 α5 γ:Type}(a0:α0)(a1:α1)(a2:α2)(a3:α3)(a4:α4)(a5:α5)(X:Option γ):Option γ:=eqv a0 a0 (eqv a1 a1 (eqv a2 a2 (eqv a3 a3 (eqv a4 a4 (eqv a5 a5 X)))))
theorem RX{α0 α1 α2 α3 α4 α5 γ:Type}(a0:α0)(a1:α1)(a2:α2)(a3:α3)(a4:α4)(a5:α5)(X:Option γ):ev6 a0 a1 a2 a3 a4 a5 X=X:=by unfold ev6;simp only[Cz]
def ev7{α0 α1 α2 α3 α4 α5 α6 γ:Type}(a0:α0)(a1:α1)(a2:α2)(a3:α3)(a4:α4)(a5:α5)(a6:α6)(X:Option γ):Option γ:=eqv a0 a0 (eqv a1 a1 (eqv a2 a2 (eqv a3 a3 (eqv a4 a4 (eqv a5 a5 (eqv a6 a6 X))))))
theorem Vu{α0 α1 α2 α3 α4 α5 α6 γ:Type}(a0:α0)(a1:α1)(a2:α2)(a3:α3)(a4:α4)(a5:α5)(a6:α6)(X:Option γ):ev7 a0 a1 a2 a3 a4 a5 a6 X=X:=by unfold ev7;simp only[Cz]
def ev8{α0 α1 α2 α3 α4 α5 α6 α7 γ:Type}(a0:α0)(a1:α1)(a2:α2)(a3:α3)(a4:α4)(a5:α5)(a6:α6)(a7:α7)(X:Option γ):Option γ:=eqv a0 a0 (eqv a1 a1 (eqv a2 a2 (eqv a3 a3 (eqv a4 a4 (eqv a5 a5 (eqv a6 a6 (eqv a7 a7 X)))))))
theorem Vv{α0 α1 α2 α3 α4 α5 α6 α7 γ:Type}(a0:α0)(a1:α1)(a2:α2)(a3:α3)(a4:α4)(a5:α5)(a6:α6)(a7:α7)(X:Option γ):ev8 a0 a1 a2 a3 a4 a5 a6 a7 X=X:=by unfold ev8;simp only[Cz]
def orE{ρ:Type}(a b:Option ρ):Option ρ:=match a with|some r=>some r|none=>b
def GF.orE(g:GF)(d d2:A g.ps->Option (Tu (g.rk.cs++JG g.ps)))(hd:∀a,d a=Lv.orE (g.d a) (d2 a))
 (hk:∀a r,d2 a=some r->Hb g.x (aVs g.ps a) g.rk.sh ((Ns _ r).take g.rk.cs.length).flatten ((Ns _ r).drop g.rk.cs.length)):GF:=
 ⟨g.x,g.ps,g.rk,d,g.ms,fun a r h=>by
  rw[hd]at h;unfold Lv.orE at h;split at h
  .rename_i r' h';cases h;exact g.ok a _ h'
  .exact hk a r h⟩
namespace Y
section
variable{R:List GF}
def qn(l:List (YOp R)):List (Option (Nat×Bool)×YOp R):=l.map fun o=>(none,o)
def qf(g:Nat)(l:List (YOp R)):List (Option (Nat×Bool)×YOp R):=l.map fun o=>(some (g,false),o)
def qt(g:Nat)(l:List (YOp R)):List (Option (Nat×Bool)×YOp R):=l.map fun o=>(some (g,true),o)
def qr(l:List (List (Option (Nat×Bool)×YOp R)))(Eh:List Nat):FM R:=.region l.flatten Eh
def q1(l:List (YOp R))(Eh:List Nat):FM R:=.region (qn l) Eh
def qdl(r:BS R):Nat->List (Option (Nat×Bool)×YOp R)->BS R|_,[]=>r|i,o::l=>.op i o.1 [] o.2 (qdl r (i+1) l)
def qd(i:Nat)(l:List (List (Option (Nat×Bool)×YOp R)))(r:BS R):BS R:=qdl r i l.flatten
def qm(d s:Nat):YOp R:=.mv d (.tmp s)
def qa(d s:Nat):YOp R:=.as d (.tmp s)
def qo(d o s:Nat):YOp R:=.fa d o (.tmp s)
def ql(d s:Nat):YOp R:=.ld d none (.tmp s)
def qL(d n s:Nat):YOp R:=.ld d (some n) (.tmp s)
def qb(d:Nat)(o:BinOp)(x y:Nat):YOp R:=.bin d .num o (.tmp x) (.tmp y)
def qi(d:Nat)(o:BinOp)(x:Nat)(n:Int):YOp R:=.bin d .num o (.tmp x) (.k (.int .i64 n))
def qx(d s:Nat):YOp R:=.un d .not (.tmp s)
def qp(d c x:Nat):YOp R:=.pick d (.tmp c) (.k (.bool true)) (.tmp x)
def qq(d c x:Nat):YOp R:=.pick d (.tmp c) (.tmp x) (.k (.bool false))
def qc(d:Nat)(g:GF)(hf:([]:List Nat).map (fun n=>(R[n]?).map GF.x)=(fX g.ps).map some)(l:List Nat):YOp R:=.call d g [] hf (l.map .tmp)
def qz(d s:Nat):YOp R:=.len d (.tmp s)
def qe(d:Nat)(c:C)(x i:Nat):YOp R:=.ia d c (.tmp x) (.tmp i)
def qk(d:Nat)(n:Int):YOp R:=.mv d (.k (.int .i64 n))
def qK(d:Nat)(n:Int):YOp R:=.as d (.k (.int .i64 n))
def qB(d:Nat)(b:Bool):YOp R:=.as d (.k (.bool b))
def qw(n x v:Nat):YOp R:=.st n (.tmp x) (.tmp v)
def qu(d s:Nat):YOp R:=.box d (.tmp s)
def qj(n:Int):YO:=.k (.int .i64 n)
instance (n:Nat):OfNat YO n:=⟨.tmp n⟩
def kpF:Nat->Nat->Nat->List Nat
 |0,_,_=>[]|f+1,i,n=>match Nat.beq n 0 with|true=>[]|false=>match Nat.testBit n 0 with|true=>i::kpF f (i+1) (n / 2)|false=>kpF f (i+1) (n / 2)
def wU:Nat->List (Nat->Nat->YOp R)->List (YOp R)|_,[]=>[]|0,f::l=>f 0 0::wU 1 l|k+1,f::l=>f (k+1) k::wU (k+2) l
def wn(d:Nat)(l:List (Nat->Nat->YOp R)):List (Option (Nat×Bool)×YOp R):=qn (wU d l)
def wf(g d:Nat)(l:List (Nat->Nat->YOp R)):List (Option (Nat×Bool)×YOp R):=qf g (wU d l)
def wt(g d:Nat)(l:List (Nat->Nat->YOp R)):List (Option (Nat×Bool)×YOp R):=qt g (wU d l)
def w1(d:Nat)(l:List (Nat->Nat->YOp R))(Eh:List Nat):FM R:=q1 (wU d l) Eh
def sw(d:Nat)(l:List (Nat->Nat->YOp R))(Eh:List Nat)(b:FM R):FM R:=.seq (q1 (wU d l) Eh) b
def sq(l:List (YOp R))(Eh:List Nat)(b:FM R):FM R:=.seq (q1 l Eh) b
def sr(l:List (List (Option (Nat×Bool)×YOp R)))(Eh:List Nat)(b:FM R):FM R:=.seq (qr l Eh) b
def wm(s d _p:Nat):YOp R:=.mv d (.tmp s)
def wM(d p:Nat):YOp R:=.mv d (.tmp p)
def wo(o s d _p:Nat):YOp R:=.fa d o (.tmp s)
def wO(o d p:Nat):YOp R:=.fa d o (.tmp p)
def wl(s d _p:Nat):YOp R:=.ld d none (.tmp s)
def wL(d p:Nat):YOp R:=.ld d none (.tmp p)
def wk(n s d _p:Nat):YOp R:=.ld d (some n) (.tmp s)
def wK(n d p:Nat):YOp R:=.ld d (some n) (.tmp p)
def wz(s d _p:Nat):YOp R:=.len d (.tmp s)
def wZ(d p:Nat):YOp R:=.len d (.tmp p)
def wx(s d _p:Nat):YOp R:=.un d .not (.tmp s)
def wX(d p:Nat):YOp R:=.un d .not (.tmp p)
def wb(o:BinOp)(x y d _p:Nat):YOp R:=.bin d .num o (.tmp x) (.tmp y)
def wB(o:BinOp)(x d p:Nat):YOp R:=.bin d .num o (.tmp x) (.tmp p)
def wi(o:BinOp)(x:Nat)(n:Int)(d _p:Nat):YOp R:=.bin d .num o (.tmp x) (.k (.int .i64 n))
def wI(o:BinOp)(n:Int)(d p:Nat):YOp R:=.bin d .num o (.tmp p) (.k (.int .i64 n))
def wr(c x d _p:Nat):YOp R:=.pick d (.tmp c) (.k (.bool true)) (.tmp x)
def wR(c d p:Nat):YOp R:=.pick d (.tmp c) (.k (.bool true)) (.tmp p)
def wq(c x d _p:Nat):YOp R:=.pick d (.tmp c) (.tmp x) (.k (.bool false))
def wQ(c d p:Nat):YOp R:=.pick d (.tmp c) (.tmp p) (.k (.bool false))
def we(c:C)(x i d _p:Nat):YOp R:=.ia d c (.tmp x) (.tmp i)
def wE(c:C)(x d p:Nat):YOp R:=.ia d c (.tmp x) (.tmp p)
def wc(g:GF)(hf:([]:List Nat).map (fun n=>(R[n]?).map GF.x)=(fX g.ps).map some)(l:List YO)(d _p:Nat):YOp R:=.call d g [] hf l
def wY(g:GF)(hf:([]:List Nat).map (fun n=>(R[n]?).map GF.x)=(fX g.ps).map some)(d p:Nat):YOp R:=.call d g [] hf [.tmp p]
def wj(n:Int)(d _p:Nat):YOp R:=.mv d (.k (.int .i64 n))
def wh(f:Nat->YOp R)(d _p:Nat):YOp R:=f d
def Kp(n:Nat):List Nat:=kpF 300 0 n
def cv(n:Nat)(c:C):Bool×Nat×Sh×List AL:=(false,n,.one,[.val c none])
def ca(n:Nat)(c:C):Bool×Nat×Sh×List AL:=(false,n,.agg,[.val c none])
def cx(n:Nat)(c:C):Bool×Nat×Sh×List AL:=(true,n,.one,[.val c none])
def cn(c:Nat)(ke:List Nat)(t:FM R):FM R:=.cond c [] ke t .skip
def ce(c:Nat)(kt ke:List Nat)(id:Nat):FM R:=.cond c kt ke .skip (.exit id)
def bl(id:Nat)(c:Cut)(b:FM R):FM R:=.block id (.loop c b)
end
end Y
end Lv
namespace Lv
open Go
section
variable{A:Nat->Nat->List Md->Prop}{P:Program}
def fnd(n:Nat)(ms:List Md):List (Nat×Bz)->Option Bz
 | []=>none|p::r=>match Nat.beq p.1 n&&decide (Dp p.2=ms) with|true=>some p.2|false=>fnd n ms r
theorem nE {n ms x}:∀{r:List (Nat×Bz)},fnd n ms r=some x->(n,x)∈r
 | [],h=>by cases h
 |(k,y)::r,h=>by
  unfold fnd at h;split at h
  .rename_i hb;cases h;rw[AD]at hb;have he:k=n:=Nat.eq_of_beq_eq_true hb.1;subst he;exact BG
  .exact Ag _ (nE h)
theorem Mt.at{r:List (Nat×Bz)} {n x} (h:∀p∈r,Mt A P p.1 p.2) (e:fnd n (Dp x) r=some x):Mt A P n x:=h _ (nE e)
def caO(P:Program)(p:Nat×Bz):List (Nat×Bz):=match P.funcs[p.1]? with|some fn=>rZ fn p.2|none=>[]
def okO(P:Program)(p:Nat×Bz):Bool:=match P.funcs[p.1]? with|some fn=>ANp P fn p.2|none=>false
def okM(P:Program):List (Nat×Bz)->List (Nat×Bz)->Bool| [],_=>true|p::l,r=>okO P p&&(caO P p).all (fun q=>(fnd q.1 (Dp q.2) r).isSome)&&okM P l (p::r)
def caM(P:Program):List (Nat×Bz)->List (List (Nat×Bz))| []=>[]|p::l=>caO P p::caM P l
def exM(P:Program):List (Nat×Bz)->List (Nat×Bz)->List (List (Nat×Bz))| [],_=>[]|p::l,r=>(caO P p).map (fun q=>(q.1,(fnd q.1 (Dp q.2) r).getD q.2))::exM P l (p::r)
theorem Mt.s:∀{l r:List (Nat×Bz)},(∀p∈r,Mt A P p.1 p.2)->okM P l r=true->caM P l=exM P l r->∀p∈l.reverseAux r,Mt A P p.1 p.2
 | [],_,h,_,_=>h|p::l,r,h,ho,hc=>by
  unfold okM at ho;unfold caM exM at hc;rw[AD,AD]at ho;obtain⟨⟨h1,h2⟩,h3⟩:=ho;injection hc with hc1 hc2;refine Mt.s (l:=l) (r:=p::r) (fun q hq=>?_) h3 hc2;rcases Ac.1 hq with rfl|hq
  .unfold okO at h1;unfold caO at hc1 h2;cases hf:P.funcs[q.1]? with
   |none=>simp[hf]at h1|some fn=>
    simp only[hf]at h1 hc1 h2;refine Mt.by hf h1 hc1 fun t ht=>?_
    obtain⟨u,hu,rfl⟩:=List.mem_map.1 ht;have:=B9.1 h2 u hu;cases hx:fnd u.1 (Dp u.2) r with
    |none=>simp[hx]at this|some x=>exact h _ (nE hx)
  .exact h q hq
def lX(l:List (Nat×GF)):List (Nat×Bz):=l.map fun p=>(p.1,p.2.x)
end
end Lv
