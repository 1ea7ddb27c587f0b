/- The typed machine is right about the light one. -/
import Derived.Test.YtpbbmlmilagnkaaGreatTA
import Derived.KernelRfl
noncomputable section
set_option linter.unusedVariables false
set_option linter.unusedSimpArgs false
set_option linter.unusedSectionVars false
open Bool renaming and_eq_true->AD,false_and->BJ,false_eq_true->A7,not_eq_true'->A8
open List.cons renaming injEq->B0
open List renaming drop_left'->B7,ext_getElem?->EH,getD_eq_getElem?_getD->E7,getElem?_eq_some_iff->AJ,getElem?_map->Ak,getElem?_set->C9,length_append->AO,length_cons->AM,length_drop->A9,length_map->AZ,length_nil->AQ,map_append->C0,map_cons->AF,map_drop->CA,map_flatten->He,map_map->DB,map_nil->A6,map_replicate->E9,map_set->Fc,map_take->CQ,mem_cons->Af,mem_cons_of_mem->Au,mem_cons_self->BZ,take_append_drop->GL,take_left'->CK
open Nat renaming beq_refl->JS,le_refl->AT,lt_succ_of_lt->HF,not_lt->KZ,sub_self->DD
open Option renaming getD_some->Hk,map_some->Ab
open Option.some renaming injEq->AB
namespace Lv
open Go (IntKind BinOp UnOp)
theorem wW{γ:Type}{b:Bool}{x y:Option γ}{r:γ}(h:br b x y=some r):(b=true/\x=some r)\/(b=false/\y=some r):=by
 grind[AJ7]
theorem Lf{γ:Type}{p:Prop} [Decidable p] {x:Option γ} {r:γ} (h:gd p x=some r):p/\x=some r:=by
 grind[AEF]
theorem QC{α γ:Type}{o:Option α}{f:α->Option γ}{r:γ}(h:bd o f=some r):∃a,o=some a/\f a=some r:=ob (pz o f▸h)
theorem Ro(X:List (List T))(i j:Nat)(o:T)(k:Nat):(Gy X i j o)[k]?=if k=i then (X[i]?).map (fun row=>row.set j o) else X[k]?:=by
 grind[Gy,List.getElem?_eq_getElem,List.getElem?_eq_none]
theorem ACo(X:List (List T))(i j i2 j2:Nat)(o t:T)(h:j2≠j):Gy (Gy X i2 j2 t) i j o=Gy (Gy X i j o) i2 j2 t:=by
 apply EH
 grind[Ro,List.set_comm]
theorem ACp(X:List (List T))(i j:Nat)(o t:T):Gy (Gy X i j t) i j o=Gy X i j o:=by
 apply EH;intro k;simp only[Ro];by_cases h1:k=i
 .subst h1;simp only[if_true];cases X[k]? with|none=>rfl|some row=>simp
 .simp only[if_neg h1]
namespace Y
section
variable{R:List GF}{ρ:Type}
theorem bY(i j:Nat)(o:T):∀(hs:List (Nat×Nat)) (X:List (List T)),(∀p∈hs,p.2≠j)->Gy (JY X hs) i j o=JY (Gy X i j o) hs
 | [],X,_=>rfl|(a,b)::hs,X,h=>by
  simp only[JY];rw[bY i j o hs _ (fun p hp=>h p (by simp[hp])),ACo X i j a b o .top (h (a,b) (by simp))]
theorem AHC{c:C}{xs:List c.D}{i j:Nat}{o:U}{x x':c.D}(hx:xs[i]?=some x)(h:ofC c ((cells c x).set j o)=some x'):Gy (xs.map (enc c)) i j o.fg=(xs.set i x').map (enc c):=by
 have h1:i<xs.length:=(AJ.1 hx).1;apply EH;intro k;simp only[Ro,Ak,C9];by_cases hk:k=i
 .subst hk;simp only[if_true,hx,Ab,h1,AB];rw[Gi h,EC,Fc]
 grind
theorem KA:∀{ls:List AN} {us:List U} {S:St} {K:St->Option ρ} {r:ρ},FV S ls us K=some r ->
 ∃S',Lv.FV (S.fg R) (ls.map (AN.fg R)) (us.map U.fg)=some (S'.fg R)/\A5 S S'/\K S'=some r
 | [],[],S,K,r,h=>⟨S,rfl,A5.refl _,h⟩| [],u::us,S,K,r,h=>by simp[FV]at h|l::ls,[],S,K,r,h=>by cases l<;>simp[FV]at h
 |l::ls,o::us,S,K,r,h=>by
  cases l with
  |t x=>
   have h:FV S ls us K=some r:=h;obtain⟨S',h1,h2,h3⟩:=KA h;exact⟨S',h1,h2,h3⟩
  |al q sub=>
   cases sub with
   |some p=>simp[FV]at h|none=>
    have h:FV (S.BT q (.ow o)) ls us K=some r:=h;obtain⟨S',h1,h2,h3⟩:=KA h;refine⟨S',?_,(A5.BT _ _ _).trans h2,h3⟩;rw[FP]at h1;exact h1
  |vw s c xs=>
   cases s with
   |old k=>simp[FV]at h|own q p=>
    cases p with
    |none=>simp[FV]at h|some p=>
     obtain⟨i,j⟩:=p;simp only[FV]at h;split at h
     .rename_i c' rows i' j' hs hat;split at h
      .rename_i hj;obtain⟨rfl,hall⟩:=hj;obtain⟨rfl,h⟩:=Lf h;obtain⟨x,hx,h⟩:=QC h;split at h
       .rename_i x' hx';obtain⟨S',h1,h2,h3⟩:=KA h;refine⟨S',?_,((A5.BT _ _ _).trans (A5.kill _ _)).trans h2,h3⟩;have hne:∀p∈hs,p.2≠j':=by
         intro p hp;have:=List.all_eq_true.1 hall p hp;intro he;simp[he]at this
        simp only[AF,AN.fg,Lv.FV,Ht,hat,Ab];rw[<-H0 (Mj q),FP]at h1;rw[<-h1];congr 3;simp only[JY];rw[bY _ _ _ hs _ hne,ACp,AHC hx hx'];cases hs with
        |nil=>simp only[AN.fg,U.fg,JY]|cons p hs=>simp only[AN.fg]
       .cases h
      .cases h
     .cases h
  |_=>simp[FV]at h
theorem AIs(S0 S:Lv.St)(ms:List Md)(e:Lv.Ent)(es:List Lv.Ent)(outs:List (List T)):Lv.EI S0 S (.b::ms) (e::es) outs=match AKn e,outs with
 |some id,o::outs=>(match Lv.get S0.bx id,Lv.get S.bx id with
  |some ls,some ls1=>if o.length=ls1.length then Lv.EI S0 { S with bx:=Lv.put S.bx id (o.map (Lv.DP (Lv.Cg ls)))} ms es outs else none
  |_,_=>none)
 |_,_=>none:=by
 obtain⟨sh,cs⟩:=e;cases sh<;>try rfl
 rcases cs with _|⟨l,_|⟨l2,ls⟩⟩
 .rfl
 .cases l<;>try rfl
  rename_i id off;cases off<;>cases outs<;>rfl
 .cases l<;>try rfl
  rename_i id off;cases off<;>rfl
theorem AJ3{S0 S:St}{c:C}{ks:List PK}{e:En}{es:List En}{outs:List (List U)}{K:St->Option ρ}:EI S0 S (.b c::ks) (e::es) outs K=match bp0 e,outs with
 |some id,o::outs=>(match get S0.bx id,get S.bx id with
  |some ls,some ls1=>if o.length=ls1.cs.length then EI S0 (S.KW id (o.map (DP (Cg ls.cs)))) ks es outs K else none|_,_=>none)
 |_,_=>none:=by
 obtain⟨sh,cs⟩:=e;cases sh<;>try rfl
 rcases cs with _|⟨l,_|⟨l2,ls⟩⟩
 .rfl
 .cases l<;>try rfl
  rename_i id off;cases off<;>cases outs<;>rfl
 .cases l<;>try rfl
  rename_i id off;cases off<;>rfl
theorem J4{S0:St}:∀{ks:List PK} {es:List En} {outs:List (List U)} {S:St} {K:St->Option ρ} {r:ρ},EI S0 S ks es outs K=some r ->
 ∃S',Lv.EI (S0.fg R) (S.fg R) (ks.map PK.md) (es.map (En.fg R)) (outs.map fun o=>o.map U.fg)=some (S'.fg R)/\A5 S S'/\K S'=some r
 | [],es,[],S,K,r,h=>by
  refine⟨S,?_,A5.refl _,?_⟩
  .cases es<;>rfl
  .cases es<;>exact h
 | [],es,o::outs,S,K,r,h=>by cases es<;>simp[EI]at h
 |k::ks,[],outs,S,K,r,h=>by cases outs<;>simp[EI]at h
 |k::ks,e::es,outs,S,K,r,h=>by
  cases k with
  |b c=>
   rw[AJ3]at h;simp only[AF,PK.md];rw[AIs,ADY];split at h
   .rename_i id o outs' hb;rw[hb];simp only[AF,Lb];split at h
    .rename_i ls ls1 hl hl1;rw[hl,hl1];split at h
     .rename_i hlen;obtain⟨S',h1,h2,h3⟩:=J4 h;refine⟨S',?_,(A5.KW _ _ _).trans h2,h3⟩;simp only[Ab,AZ,hlen,if_true];rw[Oe,Lj]at h1;rw[KF];exact h1
     .cases h
    .cases h
   .cases h
  |m c=>
   cases outs with
   |nil=>simp[EI]at h|cons o outs=>
    have h:FV S e.cs o (fun S'=>EI S0 S' ks es outs K)=some r:=h;obtain⟨S1,h1,h2,h3⟩:=KA (R:=R) h;obtain⟨S',h4,h5,h6⟩:=J4 h3;refine⟨S',?_,h2.trans h5,h6⟩;simp only[AF,PK.md,Lv.EI,En.fg,h1];exact h4
  |v c=>
   have h:EI S0 S ks es outs K=some r:=by cases outs<;>exact h
   obtain⟨S',h1,h2,h3⟩:=J4 h;refine⟨S',?_,h2,h3⟩;cases outs<;>exact h1
  |p c=>
   have h:EI S0 S ks es outs K=some r:=by cases outs<;>exact h
   obtain⟨S',h1,h2,h3⟩:=J4 h;refine⟨S',?_,h2,h3⟩;cases outs<;>exact h1
  |o c=>
   have h:EI S0 S ks es outs K=some r:=by cases outs<;>exact h
   obtain⟨S',h1,h2,h3⟩:=J4 h;refine⟨S',?_,h2,h3⟩;cases outs<;>exact h1
  |f x l=>
   have h:EI S0 S ks es outs K=some r:=by cases outs<;>exact h
   obtain⟨S',h1,h2,h3⟩:=J4 h;refine⟨S',?_,h2,h3⟩;cases outs<;>exact h1
theorem YU{S:St}{d:Nat}{ls:List AN}{K:St->Option ρ}{r:ρ}(h:Ll S d ls K=some r):∃S',Lv.Ll (S.fg R) d (ls.map (AN.fg R))=some (S'.fg R)/\A5 S S'/\K S'=some r:=by
 unfold Ll at h;split at h
 .cases h
 .rename_i hm;have hp:d∉(S.fg R).pin:=Ju.1 hm;refine⟨_,?_,((A5.kill _ _).trans (A5.HX _ _ _ _)).trans (A5.KW _ _ _),h⟩;unfold Lv.Ll;rw[if_neg hp,Oe,Is,<-H0 (q':=fun l=>Lv.Dr d l||Lv.EN d l) (fun l=>by rw[RX,RW])];rfl
theorem AIr{S:St}{e:En}{k:Nat}(h:YI S e=some k):Lv.YI (S.fg R) (e.fg R)=some k:=by
 have gen:∀(cs:List AN),(if (EJ (Cg cs) cs).isSome=true then some (Cg cs) else none)=some k->(if (Lv.EJ (Lv.Cg (cs.map (AN.fg R))) (cs.map (AN.fg R))).isSome=true then some (Lv.Cg (cs.map (AN.fg R))) else none)=some k:=by
  intro cs h;rw[KF];cases hb:EJ (Cg cs) cs with
  |none=>rw[hb]at h;simp at h|some us=>rw[LJ hb];rw[hb]at h;simpa using h
 obtain⟨sh,cs⟩:=e;cases sh<;>try exact gen cs h
 rcases cs with _|⟨l,_|⟨l2,ls⟩⟩
 .exact gen [] h
 .have g1:=gen [l];cases l with
  |bp id off=>
   grind[YI,En.fg,AN.fg,Lv.YI,Lb]
  |_=>exact g1 h
 .have g1:=gen (l::l2::ls);cases l<;>exact g1 h
theorem zk{g:GF}{S0:St}{es:List En}{k lab:Nat}(h:YJ g.ps S0 es k=some lab):Lv.YJ g.x (S0.fg R) (es.map (En.fg R)) k=some lab:=by
 unfold YJ at h;unfold Lv.YJ;rw[g.ms];simp only[Ak];split at h
 .rename_i e he;rw[he];simp only[Ab];split at h
  .cases h
  .rename_i hk;rw[if_neg]
   .exact AIr h
   .intro hc;cases hp:g.ps[k]? with
    |none=>rw[hp]at hc;simp at hc|some q=>rw[hp]at hc;cases q<;>simp[PK.md]at hc;exact hk _ hp
 .cases h
theorem XP:∀(cs:List C) (x:Tu cs),MP cs x=(NN cs x).map fun l=>l.map U.fg| [],_=>rfl| [c],x=>congrArg (fun z=>[z]) (EC c x)|c::c'::cs,x=>by simp only[MP,NN,AF,EC,XP (c'::cs) x.2]
theorem AI3{d:Nat}{g:GF}{es:List En}{S0 S:St}{x:Tu (g.rk.cs++Ia g.ps)}{K:St->Option ρ}{r:ρ}(h:post d g es S0 S x K=some r) :
 ∃S',Lv.post d g.x (es.map (En.fg R)) (S0.fg R) (S.fg R) g.rk.sh ((MP _ x).take g.rk.cs.length).flatten ((MP _ x).drop g.rk.cs.length)=some (S'.fg R)/\A5 S S'/\K S'=some r:=by
 unfold post at h;obtain⟨S1,h1,h2,h3⟩:=J4 (R:=R) h;unfold Lv.post;rw[g.ms,XP,<-CA,h1,<-CQ,<-He];generalize ((NN (g.rk.cs++Ia g.ps) x).take g.rk.cs.length).flatten=us at h3;dsimp only;cases hr:g.rk with
 |ptr k c=>
  rw[hr]at h3;simp only[RK.sh];dsimp only at h3;split at h3
  .rename_i lab hl;rw[zk hl];obtain⟨S2,h4,h5,h6⟩:=YU (R:=R) h3;rw[Lj]at h4;exact⟨S2,h4,h2.trans h5,h6⟩
  .cases h3
 |vw k c=>
  rw[hr]at h3;simp only[RK.sh];dsimp only at h3;split at h3
  .rename_i lab hl;rw[zk hl];obtain⟨S2,h4,h5,h6⟩:=Ub (R:=R) h3;rw[Lj]at h4;exact⟨S2,h4,h2.trans h5,h6⟩
  .cases h3
 |ret cs=>
  rw[hr]at h3;dsimp only at h3;obtain⟨S2,h4,h5,h6⟩:=Ub (R:=R) h3;rw[S5]at h4;refine⟨S2,?_,h2.trans h5,h6⟩;simp only[RK.sh];cases hs:pH (cs.map wC) with
  |ptr k=>exfalso;revert hs;unfold pH;split<;>simp|vw k=>exfalso;revert hs;unfold pH;split<;>simp|one=>rw[hs]at h4;exact h4|agg=>rw[hs]at h4;exact h4|tup ns=>rw[hs]at h4;exact h4
theorem jO{d:Nat}{g:GF}{fs:List Nat}{es:List En}{S:St}{K:St->Option ρ}{r:ρ}(hA:Al R fs (fX g.ps))(h:xE d g fs es S K=some r) :
 ∃S1 vs cs outs S',Lv.pre g.x (es.map (En.fg R)) (S.fg R)=some (S1,vs)/\HE g.x vs g.rk.sh cs outs/\Lv.post d g.x (es.map (En.fg R)) (S.fg R) S1 g.rk.sh cs outs=some (S'.fg R)/\A5 S S'/\K S'=some r:=by
 unfold xE at h;split at h
 .cases h
 .rename_i hc;split at h
  .rename_i S1 a h1;obtain⟨x,hx,h⟩:=QC h;obtain⟨h2,h3⟩:=ADS hA h1;obtain⟨S',h4,h5,h6⟩:=AI3 (R:=R) h;refine⟨_,_,_,_,S',?_,g.ok a x hx,h4,h3.trans h5,h6⟩;unfold Lv.pre;rw[g.ms];have:=jS (R:=R) g.ps [] es;rw[A6]at this;rw[this,hc,if_neg (by decide),h2]
  .cases h
end
end Y
end Lv
namespace Lv
open Go (IntKind BinOp UnOp)
namespace Y
section
variable{R:List GF}{ρ:Type}
theorem Dv{S:St}{x:YO}{l:AN}(h:S.one x=some l):(S.fg R).one (x.er R)=some (AN.fg R l):=by
 unfold St.one at h;split at h
 .rename_i l' hr;cases h;simp only[Lv.St.one,I9 hr,En.fg,AF,A6]
 .cases h
theorem Ku{S:St}{x:YO}{u:U}(h:S.sc x=some u):(S.fg R).sc (x.er R)=some u.fg:=by
 unfold St.sc va at h;split at h
 .rename_i o l' hr;cases h;simp only[Lv.St.sc,I9 hr,En.fg,AF,A6,AN.fg,Lv.va]
 .cases h
theorem N4{S:St}{x:YO}{n:Int}(h:S.nat x=some n):(S.fg R).nat (x.er R)=some n:=by
 unfold St.nat at h;split at h
 .rename_i u hu;simp only[Lv.St.nat,Ku hu];cases u<;>simp[ALr]at h<;>subst h<;>rfl
 .cases h
theorem AKW{k:Kd}{a b:U}{c:Bool}(h:eqU k a b=some c):eqT k a.fg b.fg=some c:=by
 cases k<;>cases a<;>cases b<;>simp only[eqU]at h<;>first|cases h;done|exact h
theorem zQ:∀{ks:List Kd} {as bs:List U} {c:Bool},nQ ks as bs=some c->NA ks (as.map U.fg) (bs.map U.fg)=some c
 | [],[],[],c,h=>h| [],[],b::bs,c,h=>by simp[nQ]at h| [],a::as,bs,c,h=>by cases bs<;>simp[nQ]at h
 |k::ks,[],bs,c,h=>by cases bs<;>simp[nQ]at h
 |k::ks,a::as,[],c,h=>by simp[nQ]at h|k::ks,a::as,b::bs,c,h=>by
  simp only[nQ]at h;split at h
  .rename_i x y h1 h2;cases h;simp only[AF,NA,AKW h1,zQ h2]
  .cases h
theorem iU:∀{ls:List AN} {us:List U},P3 ls=some us->Lv.P3 (ls.map (AN.fg R))=some (us.map U.fg)
 | [],us,h=>by cases h;rfl
 |l::ls,us,h=>by
  cases l with
  |t x=>
   simp only[P3]at h;split at h
   .rename_i us' h1;cases h;simp only[AF,AN.fg,Lv.P3,iU h1,Ab]
   .cases h
  |_=>simp[P3]at h
theorem AEG{cst:Bool}{p:Prop} [Decidable p] {x:Option ρ} {r:ρ} (h:gdc cst p x=some r):p/\x=some r:=by
 cases cst with
 |true=>simp only[gdc]at h;split at h<;>simp_all|false=>exact Lf h
theorem AIm{cst:Bool}{op:BinOp}{k:IntKind}{a b:Int}{K:U->Option ρ}{r:ρ}(h:AKc cst op k a b K=some r):∃u,T0 op k a b=some (U.fg u)/\K u=some r:=by
 cases op<;>simp only[AKc]at h<;>first
  |exact⟨_,rfl,h⟩|(obtain⟨h1,h⟩:=AEG h;exact⟨_,by simp only[T0];rw[if_neg h1];rfl,h⟩)
  |cases h
theorem AHG{cst:Bool}{op:BinOp}{k:IntKind}{a b:Int}{K:U->Option ρ}{r:ρ}(h:shU cst op k a b K=some r):∃u,vd op k a b=some (U.fg u)/\K u=some r:=by
 cases op<;>simp only[shU]at h<;>first
  |cases h;done
  |(obtain⟨h1,h⟩:=AEG h;exact⟨_,by simp only[vd];rw[if_neg h1];rfl,h⟩)
theorem AHV(n:Int):(U.u8 (toB n)).fg=.int .u8 (IntKind.u8.wrap n):=by simp only[U.fg,AC5]
theorem AJ8{op:BinOp}{a b:Int}{K:U->Option ρ}{r:ρ}(h:byU op a b K=some r):∃u,T0 op .u8 a b=some (U.fg u)/\K u=some r/\AIo op=false:=by
 cases op<;>simp only[byU]at h<;>first
  |cases h;done
  |exact⟨_,by rw[AHV];rfl,h,rfl⟩|exact⟨_,rfl,h,rfl⟩
theorem c7{op:BinOp}{k k':IntKind}{a b:Int}:Uo op (.int k a) (.int k' b)=if AIo op=true then vd op k a b else if k=k' then T0 op k a b else none:=by
 cases op<;>rfl
theorem AH1{cst:Bool}{op:BinOp}{x y:U}{K:U->Option ρ}{r:ρ}(h:AJ4 cst op x y K=some r):∃u,Uo op x.fg y.fg=some (U.fg u)/\K u=some r:=by
 unfold AJ4 at h;split at h
 .rename_i k a k' b;split at h
  .rename_i hs;obtain⟨u,h1,h2⟩:=AHG h;exact⟨u,by show Uo op (.int k a) (.int k' b)=_;rw[c7,if_pos hs];exact h1,h2⟩
  .rename_i hs;split at h
   .rename_i hk;split at h
    .cases h
    .obtain⟨u,h1,h2⟩:=AIm h;exact⟨u,by show Uo op (.int k a) (.int k' b)=_;rw[c7,if_neg hs,if_pos hk];exact h1,h2⟩
   .cases h
 .rename_i k a b;split at h
  .rename_i hs;obtain⟨u,h1,h2⟩:=AHG h;exact⟨u,by show Uo op (.int k a) (.int .u8 b.toNat)=_;rw[c7,if_pos hs];exact h1,h2⟩
  .cases h
 .rename_i a b;obtain⟨u,h1,h2,h3⟩:=AJ8 h;exact⟨u,by show Uo op (.int .u8 a.toNat) (.int .u8 b.toNat)=_;rw[c7,if_neg (by simp[h3]),if_pos rfl];exact h1,h2⟩
 .rename_i a b;split at h
  .obtain⟨h1,h⟩:=Lf h;exact⟨_,by show (if a.length+b.length<=LA then some (T.str (a++b)) else none)=some (U.fg (.str (a++b)));rw[if_pos h1];rfl,h⟩
  .exact⟨_,rfl,h⟩
  .exact⟨_,rfl,h⟩
  .cases h
 .cases h
theorem qJ{op:BinOp}{b:Bool}{K:U->Option ρ}{r:ρ}(h:eqK op b K=some r):∃u,ZZ op b=some (U.fg u)/\K u=some r:=by
 cases op<;>simp only[eqK]at h<;>first
  |cases h;done
  |exact⟨_,rfl,h⟩
theorem T2{α β:Type}{f:α->β}{xs:List α}(h:xs.isEmpty=false):∃y ys,xs.map f=y::ys:=by
 cases xs with
 |nil=>simp at h|cons x xs=>exact⟨_,_,rfl⟩
theorem AIv{S:St}{l:AN}{K:Bool->Option ρ}{r:ρ}(h:S.Pl l K=some r):∃b,(S.fg R).Pl (AN.fg R l)=some b/\K b=some r:=by
 unfold St.Pl at h;split at h
 .exact⟨true,rfl,h⟩
 .rename_i s c xs;obtain⟨h1,h⟩:=Lf h;obtain⟨y,ys,hy⟩:=T2 (f:=enc c) h1;exact⟨false,by simp only[AN.fg,hy,Lv.St.Pl],h⟩
 .rename_i q;simp only[AN.fg,Lv.St.Pl,Ht];split at h
  .rename_i hq;rw[hq];exact⟨true,rfl,h⟩
  .rename_i c xs hq;rw[hq];obtain⟨h1,h⟩:=Lf h;obtain⟨y,ys,hy⟩:=T2 (f:=enc c) h1;exact⟨false,by simp only[Ab,AN.fg,U.fg,hy],h⟩
  .cases h
 .cases h
theorem AJ5{S:St}{cst:Bool}{c:Cls}{op:BinOp}{x y:En}{K:U->Option ρ}{r:ρ}(h:S.bin cst c op x y K=some r):∃u,(S.fg R).bin c op (x.fg R) (y.fg R)=some (U.fg u)/\K u=some r:=by
 unfold St.bin at h;split at h
 .split at h
  .exact AH1 h
  .cases h
 .split at h
  .exact qJ h
  .cases h
 .split at h
  .obtain⟨b,h1,h2⟩:=AIv (R:=R) h;obtain⟨u,h3,h4⟩:=qJ h2;rename_i l;exact⟨u,by show (match (S.fg R).Pl (AN.fg R l) with|some b=>ZZ op b|none=>none)=_;rw[h1];exact h3,h4⟩
  .cases h
 .split at h
  .split at h
   .rename_i as' bs' h1 h2;split at h
    .rename_i b hb;obtain⟨u,h3,h4⟩:=qJ h;refine⟨u,?_,h4⟩;simp only[En.fg,Lv.St.bin,iU h1,iU h2,zQ hb,h3]
    .cases h
   .cases h
  .cases h
theorem ALR{op:UnOp}{x:U}{K:U->Option ρ}{r:ρ}(h:unU op x K=some r):∃u,unT op x.fg=some (U.fg u)/\K u=some r:=by
 unfold unU at h;split at h
 .cases op<;>simp only at h<;>first|cases h;done|exact⟨_,rfl,h⟩
 .cases op<;>simp only at h<;>first|cases h;done|(split at h;cases h;exact⟨_,rfl,h⟩)
 .cases h
theorem AFK(k:IntKind)(n:Int):(mkInt k n).fg=.int k (k.wrap n):=by cases k<;>simp only[mkInt,AHV]<;>rfl
theorem AA2:∀(n:Nat) (x:tD n),Tr (.st n)=true->(ALh n x).all flat=true|0,x,_=>rfl|1,x,h=>absurd h (by decide)|2,x,_=>rfl|3,x,_=>rfl|4,x,_=>rfl|5,x,_=>rfl|6,x,h=>absurd h (by decide)|7,x,h=>absurd h (by decide)|8,x,h=>absurd h (by decide)|9,x,_=>rfl|10,x,_=>rfl|11,x,h=>absurd h (by decide)|12,x,h=>absurd h (by decide)|13,x,h=>absurd h (by decide)|14,x,h=>absurd h (by decide)|15,x,_=>rfl|16,x,h=>absurd h (by decide)|17,x,h=>absurd h (by decide)|_+18,x,_=>rfl
theorem AA1{c:C}(h:Tr c=true)(x:c.D):(enc c x).all flat=true:=by
 cases c with
 |l c=>cases h
 |m=>cases h
 |st n=>exact AA2 n x h|un n=>cases h
 |_=>rfl
theorem Hl{c:C}(h:Tr c=true)(xs:List c.D):E3 (xs.map (enc c))=true:=by
 grind[E3,List.all_map,List.all_eq_true,AA1]
theorem AJM{c:C}{fl:Bool}{S S':St}{l:AN}{ys:List c.D}(h:LB c fl S l=some (S',ys)):Lv.LB c.size fl (S.fg R) (AN.fg R l)=some (S'.fg R,ys.map (enc c))/\A5 S S':=by
 unfold LB at h;split at h
 .rename_i s;split at h
  .rename_i xs hx;cases h;have hc:C.u=c:=by
    simp only[Rw.as]at hx;split at hx
    .rename_i hc;exact hc
    .cases hx
   subst hc;have:=Ul hx;simp only[AN.fg,U.fg,Lv.LB,C.size,if_true,<-this,Rw.fg];exact⟨rfl,A5.refl _⟩
  .cases h
 .cases h;exact⟨rfl,A5.refl _⟩
 .rename_i s c' xs;split at h
  .rename_i hf;split at h
   .rename_i ys' hx;cases h;have hc:c'=c:=by
     simp only[Rw.as]at hx;split at hx
     .rename_i hc;exact hc
     .cases hx
    subst hc;have:=Ul hx;simp only[AN.fg,Lv.LB,Hl hf,and_self,if_true,<-this,Rw.fg];exact⟨trivial,A5.refl _⟩
   .cases h
  .cases h
 .rename_i q sub;simp only[AN.fg,Lv.LB,Ht];split at h
  .rename_i x hx;rw[hx];split at h
   .rename_i w hw;split at h
    .rename_i ys' hy;have he:eOf c.size x.fg=true:=by
      cases x<;>simp[content]at hw<;>subst hw<;>simp only[U.fg,eOf];simp only[Rw.sub,Rw.as]at hy;split at hy
      .rename_i hc;subst hc;simp
      .cases hy
     have hyy:=Ul hy;rw[AHL]at hyy;simp only[Ab,AN.fg,PF hw,he,if_true,hyy];cases fl with
     |true=>
      simp only[if_true]at h ⊢;split at h
      .rename_i hf;cases h;rw[if_pos (Hl hf _)];exact⟨rfl,A5.refl _⟩
      .cases h
     |false=>
      simp only[A7,if_false]at h ⊢;cases h;rw[TE];exact⟨rfl,A5.out _ _⟩
    .cases h
   .cases h
  .cases h
 .cases h
theorem AEH{e:Option (Nat×Nat)}{x:Option ρ}{r:ρ}(h:gdo e x=some r):(∀a b,e=some (a,b)->a=b)/\x=some r:=by
 cases e with
 |none=>exact⟨by intros;contradiction,h⟩
 |some p=>
  obtain⟨a,b⟩:=p;obtain⟨h1,h2⟩:=Lf h
  grind
theorem jH{c:C}{S S':St}{l:AN}{b:U}{n:Nat}{e:Option (Nat×Nat)}(h:Mx c S l=some (S',b,n,e))(he:∀a b,e=some (a,b)->a=b):Lv.Mx c.size (S.fg R) (AN.fg R l)=some (S'.fg R,b.fg,n)/\A5 S S':=by
 unfold Mx at h;split at h
 .cases h;exact⟨rfl,A5.refl _⟩
 .rename_i q sub;simp only[AN.fg,Lv.Mx,Ht];split at h
  .rename_i x hx;rw[hx];split at h
   .rename_i w hw;split at h
    .rename_i ys hy;cases h;have heo:eOf c.size x.fg=true:=by
      cases x<;>simp[content]at hw<;>subst hw<;>simp only[U.fg,eOf];simp only[Rw.as]at hy;split at hy
      .rename_i hc;subst hc;simp
      .cases hy
     have hyy:=Ul hy;have hte:toEnd sub (ys.map (enc c)).length=true:=by
      cases sub with
      |none=>rfl|some p=>
       obtain⟨lo,m⟩:=p;have:=he _ _ rfl;simp[toEnd,this]
     simp only[Ab,AN.fg,PF hw,hyy];rw[if_pos ⟨heo,hte⟩,TE,Ru];refine⟨?_,A5.out _ _⟩;rw[iT,<-TY,AZ]
    .cases h
   .cases h
  .cases h
 .rename_i q i j c' xs;split at h
  .rename_i hc;subst hc;split at h
   .rename_i S1 h1;cases h;obtain⟨h2,h3⟩:=z5 (R:=R) h1;simp only[AN.fg,Lv.Mx,if_true,h2,U.fg,AZ];exact⟨trivial,h3⟩
   .cases h
  .cases h
 .cases h
theorem wP{c:C}{b u:U}{ys:List c.D}(h:AHs c b ys=some u):u.fg=AAd c.size b.fg (ys.map (enc c)):=by
 unfold AHs at h;split at h
 .grind[U.fg,AAd]
 .rename_i hn;cases h;cases b<;>simp only[U.fg,AAd];exact(hn _ _ rfl).elim
end
end Y
end Lv
namespace Lv
open Go (IntKind BinOp UnOp)
theorem KR{α β:Type}(f:α->β):∀(cs ls:List α) (o:Nat),C2 (ls.map f) o (cs.map f)=(C2 ls o cs).map f
 | [],ls,o=>by cases ls<;>rfl
 |c::cs,ls,o=>by
  simp only[AF,C2];rw[<-Fc,KR f cs]
theorem ZB{α:Type}(t:α):∀(cs ls:List α) (o b:Nat),o<=b->b<o+cs.length->C2 (ls.set b t) o cs=C2 ls o cs
 | [],ls,o,b,h1,h2=>by simp at h2;omega|c::cs,ls,o,b,h1,h2=>by
  simp only[C2];by_cases h:b=o
  .subst h;rw[List.set_set]
  .rw[List.set_comm _ _ h];exact ZB t cs _ _ _ (by omega) (by simp at h2;omega)
namespace Y
section
variable{R:List GF}{ρ:Type}
theorem bg(r:Bj)(i:Nat):∀(j:Nat) (us:List U),(HB r i j us).map (AN.fg R)=Lv.HB r i j (us.map U.fg)|_,[]=>rfl|j,u::us=>by simp only[HB,AF,Lv.HB,bh,bg r i (j+1) us]
theorem c5{c:C}{xs:List c.D}{i:Int}{x:c.D}(h:at? xs i=some x):(xs.map (enc c))[i.toNat]?=some (enc c x):=AJ2 (enc c) h
theorem Mc{S:St}{n:Nat}{l:AN}{K:List AN->Option ρ}{r:ρ}(h:S.load n l K=some r):∃ls,(S.fg R).load n (AN.fg R l)=some (ls.map (AN.fg R))/\K ls=some r:=by
 unfold St.load at h;split at h
 .grind[AN.fg,Lv.St.load,Lb,List.length_map,wJ,List.map_take,List.map_drop]
 .rename_i q i j;simp only[AN.fg,Lv.St.load,Ht];split at h
  .rename_i c xs hx;rw[hx];obtain⟨x,h1,h⟩:=QC h;split at h
   .rename_i hc;refine⟨_,?_,h⟩;have h2:=c5 h1;simp only[Ab,AN.fg,U.fg,h2,EC,AZ,hc,if_true,bg,CQ,CA]
   .cases h
  .cases h
 .rename_i s cs;split at h
  .rename_i hc;refine⟨_,?_,h⟩;simp only[AN.fg,Lv.St.load,AZ,hc,if_true,AB];rw[<-CQ,DB,DB];congr 1;funext u;exact(bh _ _).symm
  .cases h
 .cases h
theorem OL:∀ls:List AN,Lv.F6 (ls.map (AN.fg R))=F6 ls
 | []=>rfl|l::ls=>by
  have ih:=OL ls;cases l with
  |t x=>cases x<;>first|rfl|exact ih
  |und=>rfl|_=>exact ih
theorem Yg(b o n:Nat)(l:AN):Lv.GI b o n (AN.fg R l)=GI b o n l:=by
 grind[Lv.GI,GI,H5,MJ,Nat.ble,Nat.le_of_ble_eq_true,decide_eq_false_iff_not,Nat.ble_eq_true_of_le,Nat.blt]
def pW:List T->List (Nat×Nat)->List T|row,[]=>row|row,(_,b)::hs=>pW (row.set b .top) hs
theorem pY:∀(hs:List (Nat×Nat)) (row:List T),(pW row hs).length=row.length| [],row=>rfl|(a,b)::hs,row=>by simp only[pW,pY hs,List.length_set]
theorem Sp(i:Nat):∀(hs:List (Nat×Nat)) (X:List (List T)) (k:Nat),(∀p∈hs,p.1=i)->(JY X hs)[k]?=if k=i then (X[i]?).map (fun row=>pW row hs) else X[k]?
 | [],X,k,h=>by
  grind[JY,pW]
 |(a,b)::hs,X,k,h=>by
  have ha:a=i:=h (a,b) (by simp);subst ha;simp only[JY];rw[Sp a hs _ k (fun p hp=>h p (by simp[hp]))];simp only[Ro,if_true];split
  .cases X[a]? <;> rfl
  .rfl
theorem T5(j:Nat)(ts:List T):∀(hs:List (Nat×Nat)) (row:List T),(∀p∈hs,j<=p.2/\p.2<j+ts.length)->C2 (pW row hs) j ts=C2 row j ts
 | [],row,h=>rfl|(a,b)::hs,row,h=>by
  simp only[pW];rw[T5 j ts hs _ (fun p hp=>h p (by simp[hp]))];have:=h (a,b) (by simp);exact ZB _ _ _ _ _ this.1 this.2
theorem YA{i j n:Nat}:∀{hs:List (Nat×Nat)},Ph i j n hs->(∀p∈hs,p.1=i)/\(∀p∈hs,j<=p.2/\p.2<j+n)
 | [],_=>⟨by simp,by simp⟩|(a,b)::hs,h=>by
  obtain⟨h1,h2,h3⟩:=h;obtain⟨h4,h5⟩:=YA h3
  grind
theorem AHP{n:Nat}{ls:List AN}{S S':St}{ls':List AN}(h:Rv n S ls=some (S',ls')):Lv.Rv n (S.fg R) (ls.map (AN.fg R))=some (S'.fg R,ls'.map (AN.fg R))/\A5 S S':=by
 grind[Rv,Lv.Rv,Nat.blt_eq,ME,A5.refl]
theorem ACy{S:St}{n:Nat}{p:AN}{cs:List AN}{K:St->Option ρ}{r:ρ}(h:S.Ms n p cs K=some r) :
 ∃S',(S.fg R).Ms n (AN.fg R p) (cs.map (AN.fg R))=some (S'.fg R)/\A5 S S'/\K S'=some r:=by
 unfold St.Ms at h;split at h
 .rename_i id o;split at h
  .rename_i S1 cs' h1;obtain⟨h2,h3⟩:=AHP (R:=R) h1;split at h
   .cases h
   .rename_i ht;dsimp only at h;split at h
    .rename_i ls hl;split at h
     .rename_i hlen;refine⟨_,?_,(h3.trans (A5.kill _ _)).trans (A5.KW _ _ _),h⟩;simp only[AN.fg,Lv.St.Ms,h2,OL,ht,A7,if_false,AZ];rw[H0 (Yg id o cs'.length),Lb,hl];simp only[Ab,AZ,hlen,if_true];rw[Oe,I7 (Yg id o cs'.length),KR]
     .cases h
    .cases h
  .cases h
 .rename_i q i j;split at h
  .rename_i S1 us h1;obtain⟨h2,h3⟩:=Ir (R:=R) h1;simp only[AN.fg,Lv.St.Ms,h2,Ht];split at h
   .rename_i c xs hx;rw[hx];obtain⟨x,h4,h⟩:=QC h;split at h
    .rename_i hlen;split at h
     .rename_i x' hx';refine⟨_,?_,(h3.trans (A5.BT _ _ _)).trans (A5.kill _ _),h⟩;have h5:=c5 h4;simp only[Ab,AN.fg,U.fg,h5,EC,AZ,hlen,if_true,AB];rw[<-H0 (Mj q),FP];congr 2;simp only[AN.fg,U.fg];rw[Fc,Gi hx',KR]
     .cases h
    .cases h
   .rename_i c xs hs hx;rw[hx];obtain⟨x,h4,h⟩:=QC h;split at h
    .rename_i hlen;split at h
     .rename_i x' hx';obtain⟨hh,h⟩:=@Lf _ _ (UX i.toNat j us.length hs) _ _ h;obtain⟨hr,hcol⟩:=YA hh;refine⟨_,?_,(h3.trans (A5.BT _ _ _)).trans (A5.kill _ _),h⟩;have h5:=c5 h4;have h6:=Sp i.toNat hs (xs.map (enc c)) i.toNat hr;rw[if_pos rfl,h5]at h6;simp only[Ab]at h6;simp only[Ab,AN.fg,h6,pY,Kh];have hl2:j+(us.map U.fg).length<=c.size:=by rw[AZ,<-SB c x];exact hlen
      rw[if_pos hl2,<-H0 (Mj q),FP];congr 3;simp only[AN.fg,U.fg];have h7:C2 (pW (enc c x) hs) j (us.map U.fg)=enc c x':=by
       rw[T5 _ _ _ _ (by rw[AZ];exact hcol),Gi hx',EC,KR]
      rw[h7];congr 1;congr 1;apply EH;intro k;have hlt:i.toNat<xs.length:=(LH h4).2.2.1;have hlt2:i.toNat<(JY (xs.map (enc c)) hs).length:=(AJ.1 h6).1;rw[C9,Ak,C9];by_cases hk:i.toNat=k
      .subst hk;simp only[if_true,hlt,hlt2,Ab]
      .rw[if_neg hk,if_neg hk,Sp i.toNat hs _ k hr,if_neg (fun h=>hk h.symm),Ak]
     .cases h
    .cases h
   .cases h
  .cases h
 .cases h
def erP(R:List GF)(p:Nat×Nat×YO):Nat×Nat×Opd:=(p.1,p.2.1,p.2.2.er R)
theorem Z5{S:St}:∀{ps:List (Nat×Nat×YO)} {ls ls':List AN},JE S ls ps=some ls'->Lv.JE (S.fg R) (ls.map (AN.fg R)) (ps.map (erP R))=some (ls'.map (AN.fg R))
 | [],ls,ls',h=>by cases h;rfl
 |(o,n,x)::ps,ls,ls',h=>by
  simp only[JE]at h;split at h
  .rename_i e he;split at h
   .rename_i hc;have:=Z5 (ps:=ps) h;simp only[AF,erP,Lv.JE,I9 he,En.fg,AZ,OL];rw[if_pos hc,KR];exact this
   .cases h
  .cases h
def erQ(R:List GF)(p:Nat×YO):Nat×Opd:=(p.1,p.2.er R)
theorem ADZ{c:C}{n:Nat}:∀{ps:List (Nat×YO)} {S S':St} {xs xs':List c.D},bsK c n S xs ps=some (S',xs') ->
 Lv.bsK c.size n (S.fg R) (xs.map (enc c)) (ps.map (erQ R))=some (S'.fg R,xs'.map (enc c))/\A5 S S'
 | [],S,S',xs,xs',h=>by cases h;exact⟨rfl,A5.refl _⟩
 |(i,x)::ps,S,S',xs,xs',h=>by
  simp only[bsK]at h;split at h
  .rename_i e he;split at h
   .rename_i hc;split at h
    .rename_i S1 us h1;obtain⟨h2,h3⟩:=Ir (R:=R) h1;split at h
     .rename_i y hy;obtain⟨h4,h5⟩:=ADZ (ps:=ps) h;simp only[AF,erQ,Lv.bsK,I9 he,En.fg,AZ];rw[if_pos hc,h2];dsimp only;rw[<-Gi hy,<-Fc];exact⟨h4,h3.trans h5⟩
     .cases h
    .cases h
   .cases h
  .cases h
theorem ADa{c:C}{n:Nat}{z:List T}:∀{ps:List (Nat×YO)} {S S':St} {ys:List c.D} (pre:List (List T)),bsL c n S ps=some (S',ys)->nk pre.length n ps=true->pre.length<=n ->
 Lv.bsK c.size n (S.fg R) (pre++List.replicate (n-pre.length) z) (ps.map (erQ R))=some (S'.fg R,pre++ys.map (enc c))/\A5 S S'
 | [],S,S',ys,pre,h,ho,hn=>by
  cases h;simp only[nk,beq_iff_eq]at ho;simp only[A6,Lv.bsK,ho,DD,List.replicate_zero];exact⟨trivial,A5.refl _⟩
 |(i,x)::ps,S,S',ys,pre,h,ho,hn=>by
  simp only[nk,AD,beq_iff_eq]at ho;obtain⟨rfl,ho⟩:=ho;simp only[bsL]at h;split at h
  .rename_i e he;split at h
   .rename_i hc;split at h
    .rename_i S1 us h1;obtain⟨h2,h3⟩:=Ir (R:=R) h1;split at h
     .rename_i y S2 ys' hy h6;cases h;have hl:(pre++[enc c y]).length=pre.length+1:=by simp
      obtain⟨h4,h5⟩:=ADa (z:=z) (ps:=ps) (pre++[enc c y]) h6 (by rw[hl];exact ho) (by rw[hl];omega);simp only[AF,erQ,Lv.bsK,I9 he,En.fg,AZ];rw[if_pos hc,h2];dsimp only;rw[<-Gi hy];have hs:(pre++List.replicate (n-pre.length) z).set pre.length (enc c y)=(pre++[enc c y])++List.replicate (n-(pre++[enc c y]).length) z:=by
       rw[List.set_append_right _ _ (AT _),DD,hl];have:n-pre.length=(n-(pre.length+1))+1:=by omega
       rw[this,List.replicate_succ];simp
      rw[hs];refine⟨?_,h3.trans h5⟩;simpa[erQ] using h4
     .cases h
    .cases h
   .cases h
  .cases h
theorem KM{S:St}{len:Nat}{lo hi:Option YO}{K:Nat->Nat->Option ρ}{r:ρ}(h:range S len lo hi K=some r) :
 ∃a b,(S.fg R).range len (lo.map (YO.er R)) (hi.map (YO.er R))=some (a,b)/\K a b=some r/\∀{α:Type} (xs:List α),xs.length=len->part lo hi xs a b=(xs.drop a).take (b-a):=by
 unfold range at h
 grind[part,Lv.St.range,Lv.St.AFL,Lf,N4,List.take_of_length_le]
theorem RJ:∀(hs:List (Nat×Nat)) (X:List (List T)),(JY X hs).length=X.length| [],_=>rfl|(i,j)::hs,X=>by rw[JY,RJ hs];simp[Gy]
theorem Ol{S:St}{c:C}{l:AN}(h:S.wide c l=true)(hl:(∃s c' xs,l=.vw s c' xs)\/(∃q sub,l=.al q sub)\/l=.t .nil):(S.fg R).wide c.size (AN.fg R l)=true:=by
 rcases hl with ⟨s,c',xs,rfl⟩|⟨q,sub,rfl⟩|rfl
 .simp only[St.wide,decide_eq_true_eq]at h;subst h;simp[AN.fg,Lv.St.wide]
 .simp only[St.wide]at h;simp only[AN.fg,Lv.St.wide,Ht];split at h
  .rename_i x hx;rw[hx];simp only[Ab,AN.fg];cases x<;>simp only[U.fg,eOf];simp only[decide_eq_true_eq]at h;subst h;simp
  .grind[AN.fg,eOf]
  .cases h
 .rfl
theorem ABR{off:Nat}{p q:AN}(h:JN off p=some q):Lv.JN off (AN.fg R p)=some (AN.fg R q):=by
 cases p<;>simp only[JN]at h<;>first
  |cases h;done
  |(cases h;simp only[AN.fg,Lv.JN,CA])
theorem AE5(p:AN):Lv.St.M1 (AN.fg R p)=M1 p:=by cases p<;>rfl
theorem AKB{l:AN}{c:Cap}(h:l.AJ9=some c):c.fg=AN.fg R l/\(AN.fg R l).plain=true:=by
 unfold AN.AJ9 at h;split at h<;>first|cases h;done|(cases h;exact⟨rfl,rfl⟩)
theorem Zy:∀{es:List En} {cs:List Cap},cr es=some cs->((es.map (En.fg R)).all fun e=>Lv.nn e.sh&&e.cs.length==1&&e.cs.all Lv.AN.plain)=true/\(es.map (En.fg R)).flatMap Lv.Ent.cs=cs.map Cap.fg
 | [],cs,h=>by cases h;exact⟨rfl,rfl⟩
 |e::es,cs,h=>by
  unfold cr at h;split at h
  .rename_i he;cases he
  .rename_i l es' he;cases he;split at h
   .rename_i c cs' h1 h2;cases h;obtain⟨h3,h4⟩:=Zy h2;obtain⟨h5,h6⟩:=AKB (R:=R) h1;constructor
    .rw[AF,List.all_cons,h3];simp[En.fg,Lv.nn,h6]
    .simp only[AF,List.flatMap_cons,h4,En.fg,A6,List.singleton_append,h5]
   .cases h
  .cases h
end
end Y
end Lv
namespace Lv
open Go (IntKind BinOp UnOp)
namespace Y
section
variable{R:List GF}{ρ:Type}
def zsC(c:C):List T:=match pj c with|some z=>enc c z|none=>[]
theorem wG{c:C}{z:c.D}(h:pj c=some z):zsC c=enc c z:=by unfold zsC;rw[h]
def YOp.er:YOp R->XOp|.mv d x=>.mv d (x.er R)|.as d x=>.as d (x.er R)|.pick d c a b=>.pick d (c.er R) (a.er R) (b.er R)|.alloc d zs=>.alloc d (zs.map U.fg)|.box d x=>.box d (x.er R)|.build d zs ps=>.build d (zs.map U.fg) (ps.map (erP R))|.Bp d n c ps=>.Bp d n (zsC c) (ps.map (erQ R))|.ld d n x=>.ld d n (x.er R)|.st n x v=>.st n (x.er R) (v.er R)|.chk d x=>.chk d (x.er R)|.bin d c op x y=>.bin d c op (x.er R) (y.er R)|.un d op x=>.un d op (x.er R)|.cvI d k x=>.cvI d k (x.er R)|.Je d x=>.Je d (x.er R)|.NO d x=>.NO d (x.er R)|.Pk d n caps=>.Pk d (xr R n) (caps.map (YO.er R))|.Ji d c n=>.Ji d (zsC c) (n.er R) (n.er R)|.sub d c x lo hi=>.sub d c.size (x.er R) (lo.map (YO.er R)) (hi.map (YO.er R))|.P2 d x lo hi=>.P2 d (x.er R) (lo.map (YO.er R)) (hi.map (YO.er R))|.fa d off x=>.fa d off (x.er R)|.ia d c x i=>.ia d c.size (x.er R) (i.er R)|.ix d x i=>.ix d (x.er R) (i.er R)|.ext d x i=>.ext d (x.er R) i|.call d g _ _ args=>.call d g.x (args.map (YO.er R))|.Dm d x ms args=>.Dm d (x.er R) ms (args.map (YO.er R))|.len d x=>.len d (x.er R)|.lens d x=>.lens d (x.er R)|.app d c fl x y=>.app d c.size fl (x.er R) (y.er R)|.Oo d c x n=>.Oo d (zsC c) (x.er R) (n.er R)|.cpy d c x y=>.cpy d c.size (x.er R) (y.er R)|.mm d m x y=>.mm d m (x.er R) (y.er R)|.mmk d=>.mmk d|.Oq d x k=>.Oq d (x.er R) (k.er R)|.N3 x k v=>.N3 (x.er R) (k.er R) (v.er R)|.AMo d x=>.AMo d (x.er R)|.bad d=>.bad d|.drop ds=>.drop ds|.RT ns=>.RT (ns.map fun p=>(p.1,p.2.size))
def Plain(o:YOp R)(S:St)(K:St->Option ρ)(r:ρ):Prop:=∃S',Lv.ev o.er (S.fg R)=some (S'.fg R)/\A5 S S'/\K S'=some r
theorem B4{o:YOp R}{S S1:St}{d:Nat}{sh:Sh}{cs:List AN}{K:St->Option ρ}{r:ρ}(h:Fx S1 d sh cs K=some r)(hk:A5 S S1)(he:Lv.ev o.er (S.fg R)=(S1.fg R).DJ d ⟨sh,cs.map (AN.fg R)⟩):Plain o S K r:=by
 obtain⟨S',h1,h2,h3⟩:=Ub (R:=R) h;exact⟨S',he.trans h1,hk.trans h2,h3⟩
variable{S:St}{K:St->Option ρ}{r:ρ}
theorem AFd{d:Nat}{x:YO}(h:ev (.mv d x:YOp R) S K=some r):Plain (.mv d x:YOp R) S K r:=by
 simp only[ev]at h;split at h
 .rename_i e he;exact B4 h (A5.refl _) (by simp only[YOp.er,Lv.ev,I9 he,En.fg])
 .cases h
theorem AFY{d:Nat}{x:YO}(h:ev (.as d x:YOp R) S K=some r):Plain (.as d x:YOp R) S K r:=by
 simp only[ev]at h;split at h
 .rename_i e he;split at h
  .rename_i S1 cs h1;obtain⟨h2,h3⟩:=ME (R:=R) h1;exact B4 h h3 (by simp only[YOp.er,Lv.ev,I9 he,En.fg,h2])
  .cases h
 .cases h
theorem gT{d:Nat}{c a b:YO}(h:ev (.pick d c a b:YOp R) S K=some r):Plain (.pick d c a b:YOp R) S K r:=by
 simp only[ev]at h;split at h
 .rename_i t ea eb h1 h2 h3;rcases wW h with ⟨rfl,h'⟩|⟨rfl,h'⟩
  .exact B4 h' (A5.refl _) (by simp only[YOp.er,Lv.ev,Ku h1,I9 h2,I9 h3,U.fg,En.fg,if_true])
  .exact B4 h' (A5.refl _) (by simp only[YOp.er,Lv.ev,Ku h1,I9 h2,I9 h3,U.fg,En.fg,A7,if_false])
 .cases h
theorem Ye{d:Nat}{zs:List U}(h:ev (.alloc d zs:YOp R) S K=some r):Plain (.alloc d zs:YOp R) S K r:=by
 simp only[ev]at h;obtain⟨S',h1,h2,h3⟩:=YU (R:=R) h;refine⟨S',?_,h2,h3⟩;rw[<-h1];simp only[YOp.er,Lv.ev,Lv.Ll,DB];rfl
theorem vF{d:Nat}{x:YO}(h:ev (.box d x:YOp R) S K=some r):Plain (.box d x:YOp R) S K r:=by
 simp only[ev]at h;split at h
 .rename_i e he;split at h
  .rename_i S1 cs h1;obtain⟨h2,h3⟩:=AH6 (R:=R) h1;split at h
   .cases h
   .rename_i hc;obtain⟨S',h4,h5,h6⟩:=YU (R:=R) h;refine⟨S',?_,h3.trans h5,h6⟩;simp only[YOp.er,Lv.ev,I9 he,En.fg,h2,OL,AZ]
    grind[I7,Lv.Dr,Lv.EN,RX,RW,Lv.Ll]
  .cases h
 .cases h
theorem Yf{d:Nat}{zs:List U}{ps:List (Nat×Nat×YO)}(h:ev (.build d zs ps:YOp R) S K=some r):Plain (.build d zs ps:YOp R) S K r:=by
 simp only[ev]at h;split at h
 .rename_i ls hl;have:=Z5 (R:=R) hl;rw[DB]at this;refine B4 h (A5.refl _) ?_;simp only[YOp.er,Lv.ev,DB];rw[show (Lv.AN.t∘U.fg)=(AN.fg R∘AN.t) from rfl,this]
 .cases h
theorem TB{d n:Nat}{c:C}{ps:List (Nat×YO)}(h:ev (.Bp d n c ps:YOp R) S K=some r):Plain (.Bp d n c ps:YOp R) S K r:=by
 simp only[ev]at h;split at h
 .rename_i z hz;split at h
  .rename_i hn;split at h
   .rename_i S1 xs hx;have hb:Lv.bsK c.size n (S.fg R) (rowsOf n (enc c z)) (ps.map (erQ R))=some (S1.fg R,xs.map (enc c))/\A5 S S1:=by
     split at hx
     .rename_i ho;have:=ADa (R:=R) (z:=enc c z) [] hx ho (Nat.zero_le _);simpa[rowsOf] using this
     .have:=ADZ (R:=R) hx;rw[E9]at this;exact this
    refine B4 h hb.2 ?_;simp only[YOp.er,Lv.ev,wG hz,Kh];rw[if_pos hn,hb.1];rfl
   .cases h
  .cases h
 .cases h
theorem AFc{d:Nat}{n:Option Nat}{x:YO}(h:ev (.ld d n x:YOp R) S K=some r):Plain (.ld d n x:YOp R) S K r:=by
 simp only[ev]at h;split at h
 .rename_i p hp;obtain⟨ls,h1,h⟩:=Mc (R:=R) h
  grind[B4,A5.refl,YOp.er,Lv.ev,Dv]
 .cases h
theorem AFe{n:Nat}{x v:YO}(h:ev (.st n x v:YOp R) S K=some r):Plain (.st n x v:YOp R) S K r:=by
 simp only[ev]at h;split at h
 .rename_i p e hp he;split at h
  .rename_i hc;obtain⟨S',h1,h2,h3⟩:=ACy (R:=R) h;refine⟨S',?_,h2,h3⟩;simp only[YOp.er,Lv.ev,Dv hp,I9 he,En.fg,AZ];rw[if_pos hc,h1]
  .cases h
 .cases h
theorem vG{d:Nat}{x:YO}(h:ev (.chk d x:YOp R) S K=some r):Plain (.chk d x:YOp R) S K r:=by
 simp only[ev]at h
 grind[B4,A5.refl,YOp.er,Lv.ev,Dv,AE5]
theorem vE{d:Nat}{c:Cls}{op:BinOp}{x y:YO}(h:ev (.bin d c op x y:YOp R) S K=some r):Plain (.bin d c op x y:YOp R) S K r:=by
 simp only[ev]at h;split at h
 .rename_i ex ey h1 h2;obtain⟨u,h3,h⟩:=AJ5 (R:=R) h;exact B4 h (A5.refl _) (by simp only[YOp.er,Lv.ev,I9 h1,I9 h2,h3];rfl)
 .cases h
theorem AFf{d:Nat}{op:UnOp}{x:YO}(h:ev (.un d op x:YOp R) S K=some r):Plain (.un d op x:YOp R) S K r:=by
 simp only[ev]at h;split at h
 .rename_i a h1;obtain⟨u,h3,h⟩:=ALR h;exact B4 h (A5.refl _) (by simp only[YOp.er,Lv.ev,Ku h1,h3];rfl)
 .cases h
theorem vI{d:Nat}{k:IntKind}{x:YO}(h:ev (.cvI d k x:YOp R) S K=some r):Plain (.cvI d k x:YOp R) S K r:=by
 simp only[ev]at h
 grind[B4,A5.refl,YOp.er,Lv.ev,N4,AN.fg,AFK]
theorem gK{d:Nat}{x:YO}(h:ev (.Je d x:YOp R) S K=some r):Plain (.Je d x:YOp R) S K r:=by
 simp only[ev]at h;split at h
 .rename_i s h1;exact B4 h (A5.refl _) (by simp only[YOp.er,Lv.ev,Ku h1,U.fg];rfl)
 .cases h
theorem gJ{d:Nat}{x:YO}(h:ev (.NO d x:YOp R) S K=some r):Plain (.NO d x:YOp R) S K r:=by
 simp only[ev]at h;split at h
 .rename_i l h1;split at h
  .rename_i w hw;split at h
   .rename_i bs hb;have h2:=La (R:=R) hw;rw[Ul hb]at h2;refine B4 h (A5.refl _) ?_;have h3:bytesOf (bs.map (enc .u))=some bs:=jK bs;simp only[YOp.er,Lv.ev,Dv h1,h2,h3];rfl
   .cases h
  .cases h
 .cases h
theorem gP{d n:Nat}{caps:List YO}(h:ev (.Pk d n caps:YOp R) S K=some r):Plain (.Pk d n caps:YOp R) S K r:=by
 simp only[ev]at h;split at h
 .rename_i es he;split at h
  .rename_i cs hc;obtain⟨h1,h2⟩:=Zy (R:=R) hc;refine B4 h (A5.refl _) ?_;simp only[YOp.er,Lv.ev,TL he];rw[if_pos h1,h2];rfl
  .cases h
 .cases h
theorem gQ{d:Nat}{c:C}{n:YO}(h:ev (.Ji d c n:YOp R) S K=some r):Plain (.Ji d c n:YOp R) S K r:=by
 simp only[ev]at h;split at h
 .grind[Lf,B4,A5.refl,YOp.er,Lv.ev,N4,wG,Kh,rowsOf,AN.fg,U.fg,List.map_replicate]
 .cases h
theorem gU{d:Nat}{x:YO}{lo hi:Option YO}(h:ev (.P2 d x lo hi:YOp R) S K=some r):Plain (.P2 d x lo hi:YOp R) S K r:=by
 simp only[ev]at h;split at h
 .rename_i s hs;obtain⟨a,b,h1,h,h2⟩:=KM (R:=R) h;rw[h2 s rfl]at h;exact B4 h (A5.refl _) (by simp only[YOp.er,Lv.ev,Ku hs,U.fg,h1];rfl)
 .cases h
theorem AD2{q:Bj}{sub:Option (Nat×Nat)}{w:Rw}{c:C}{xs:List c.D}(h:S.elems (.al q sub)=some w)(ha:w.as c=some xs):(S.fg R).elems (.al q sub)=some (xs.map (enc c)):=by
 have:=La (R:=R) h;rw[Ul ha]at this;exact this
theorem vM{d:Nat}{c:C}{x:YO}{lo hi:Option YO}(h:ev (.sub d c x lo hi:YOp R) S K=some r):Plain (.sub d c x lo hi:YOp R) S K r:=by
 simp only[ev]at h;split at h
 .rename_i l hl;split at h
  .rename_i hw;split at h
   .rename_i q sub;have hw':=Ol (R:=R) hw (.inr (.inl ⟨_,_,rfl⟩));split at h
    .rename_i w he;split at h
     .rename_i xs hx;obtain⟨a,b,h1,h,_⟩:=KM (R:=R) h;have h2:=AD2 (R:=R) he hx;have h3:=Dv (R:=R) hl;simp only[AN.fg]at hw' h3;refine B4 h (A5.refl _) ?_;simp only[YOp.er,Lv.ev,h3,hw',if_true,h2,AZ,h1];cases sub with|none=>rfl|some p=>rfl
     .cases h
    .cases h
   .rename_i s c' xs;have hw':=Ol (R:=R) hw (.inl ⟨_,_,_,rfl⟩);obtain⟨a,b,h1,h,h2⟩:=KM (R:=R) h;rw[h2 xs rfl]at h;have h3:=Dv (R:=R) hl;simp only[AN.fg]at hw' h3;refine B4 h (A5.refl _) ?_;simp only[YOp.er,Lv.ev,h3,hw',if_true,Lv.St.elems,AZ,h1,AF,A6,AN.fg,CQ,CA]
   .obtain⟨a,b,h1,h,_⟩:=KM (R:=R) h;have hw':=Ol (R:=R) hw (.inr (.inr rfl));have h3:=Dv (R:=R) hl;simp only[AN.fg,U.fg]at hw' h3;refine B4 h (A5.refl _) ?_;simp only[YOp.er,Lv.ev,h3,hw',if_true,Lv.St.elems,AQ,h1,AF,A6,AN.fg,U.fg]
   .cases h
  .cases h
 .cases h
theorem AFZ{d off:Nat}{x:YO}(h:ev (.fa d off x:YOp R) S K=some r):Plain (.fa d off x:YOp R) S K r:=by
 simp only[ev]at h;split at h
 .rename_i p hp;split at h
  .rename_i q hq;exact B4 h (A5.refl _) (by simp only[YOp.er,Lv.ev,Dv hp,ABR hq];rfl)
  .cases h
 .cases h
theorem AFa{d:Nat}{c:C}{x i:YO}(h:ev (.ia d c x i:YOp R) S K=some r):Plain (.ia d c x i:YOp R) S K r:=by
 simp only[ev]at h;split at h
 .rename_i l n hl hn;split at h
  .rename_i hw;split at h
   .rename_i q sub;have hw':=Ol (R:=R) hw (.inr (.inl ⟨_,_,rfl⟩));split at h
    .rename_i c' xs he;obtain⟨y,hy,h⟩:=QC h;have h2:=La (R:=R) he;have h3:=Dv (R:=R) hl;simp only[AN.fg]at hw' h3 h2;have hf:=LH hy;refine B4 h (A5.refl _) ?_;simp only[YOp.er,Lv.ev,h3,N4 hn,h2,Rw.fg,AZ];rw[if_pos ⟨hw',hf.1,hf.2.1⟩];cases sub with
     |none=>rfl|some p=>
      obtain⟨lo,m⟩:=p;simp only[AF,A6,AN.fg];congr 5;have:=hf.1;omega
    .split at h
     .split at h
      .rename_i c' xs hs hq;obtain⟨y,hy,h⟩:=QC h;have h3:=Dv (R:=R) hl;simp only[AN.fg]at hw' h3;have hf:=LH hy;refine B4 h (A5.refl _) ?_;simp only[YOp.er,Lv.ev,h3,N4 hn,Lv.St.elems,Ht,hq,Ab,AN.fg,Lv.content,Lv.HD,RJ,AZ];rw[if_pos ⟨hw',hf.1,hf.2.1⟩];rfl
      .cases h
     .cases h
   .rename_i s c' xs;have hw':=Ol (R:=R) hw (.inl ⟨_,_,_,rfl⟩);obtain⟨y,hy,h⟩:=QC h;have h3:=Dv (R:=R) hl;simp only[AN.fg]at hw' h3;have hf:=LH hy;refine B4 h (A5.refl _) ?_;simp only[YOp.er,Lv.ev,h3,N4 hn,Lv.St.elems,AZ];rw[if_pos ⟨hw',hf.1,hf.2.1⟩];have h4:(xs.map (enc c')).getD n.toNat []=(cells c' y).map U.fg:=by
     rw[E7,c5 hy,Hk,EC]
    rw[h4];rfl
   .cases h
  .cases h
 .cases h
theorem AFb{d:Nat}{x i:YO}(h:ev (.ix d x i:YOp R) S K=some r):Plain (.ix d x i:YOp R) S K r:=by
 simp only[ev]at h;split at h
 .rename_i s n hs hn;obtain⟨y,hy,h⟩:=QC h;have hf:=LH hy;refine B4 h (A5.refl _) ?_;simp only[YOp.er,Lv.ev,Ku hs,U.fg,N4 hn];rw[if_pos ⟨hf.1,hf.2.1⟩];have:s.getD n.toNat 0=y:=by rw[E7,hf.2.2.2.1,Hk]
  rw[this];rfl
 .cases h
theorem vJ{d:Nat}{x:YO}{i:Nat}(h:ev (.ext d x i:YOp R) S K=some r):Plain (.ext d x i:YOp R) S K r:=by
 simp only[ev]at h;split at h
 .rename_i s;split at h
  .rename_i ns cs v hg;split at h
   .rename_i n hn;split at h
    .rename_i hc;split at h
     .rename_i S1 ls h1;obtain⟨h2,h3⟩:=ME (R:=R) h1;refine B4 h h3 ?_;simp only[YOp.er,YO.er,Lv.ev,RB,hg,Ab,Ent.fg,hn,AZ,hc,if_true];rw[CQ,CA,cq]at h2;rw[h2]
     .cases h
    .cases h
   .cases h
  .cases h
 .cases h
theorem gM{d:Nat}{x:YO}(h:ev (.lens d x:YOp R) S K=some r):Plain (.lens d x:YOp R) S K r:=by
 simp only[ev]at h;split at h
 .rename_i s hs;exact B4 h (A5.refl _) (by simp only[YOp.er,Lv.ev,Ku hs,U.fg];rfl)
 .cases h
theorem vK{d:Nat}{x:YO}(h:ev (.len d x:YOp R) S K=some r):Plain (.len d x:YOp R) S K r:=by
 simp only[ev]at h;split at h
 .rename_i l hl;split at h
  .rename_i c xs he;have h2:=La (R:=R) he;exact B4 h (A5.refl _) (by simp only[YOp.er,Lv.ev,Dv hl,h2,Rw.fg,AZ];rfl)
  .rename_i he;have h2:=La (R:=R) he;exact B4 h (A5.refl _) (by simp only[YOp.er,Lv.ev,Dv hl,h2,Rw.fg,AQ];rfl)
  .cases h
 .cases h
theorem vD{d:Nat}{c:C}{fl:Bool}{x y:YO}(h:ev (.app d c fl x y:YOp R) S K=some r):Plain (.app d c fl x y:YOp R) S K r:=by
 simp only[ev]at h;split at h
 .rename_i lx ly hx hy;split at h
  .rename_i S1 ys h1;obtain⟨h2,h3⟩:=AJM (R:=R) h1;split at h
   .rename_i S2 b n e h4;obtain⟨he,h⟩:=AEH h;obtain⟨h5,h6⟩:=jH (R:=R) h4 he;obtain⟨h7,h⟩:=Lf h;split at h
    .rename_i u hu;refine B4 h (h3.trans h6) ?_;simp only[YOp.er,Lv.ev,Dv hx,Dv hy,h2,h5,AZ];rw[if_pos h7,<-wP hu];rfl
    .cases h
   .cases h
  .cases h
 .cases h
theorem gH{d:Nat}{c:C}{x n:YO}(h:ev (.Oo d c x n:YOp R) S K=some r):Plain (.Oo d c x n:YOp R) S K r:=by
 simp only[ev]at h;split at h
 .rename_i lx k z hx hk hz;obtain⟨h1,h⟩:=Lf h;split at h
  .rename_i S2 b m e h4;obtain⟨he,h⟩:=AEH h;obtain⟨h5,h6⟩:=jH (R:=R) h4 he;obtain⟨h7,h⟩:=Lf h;split at h
   .rename_i u hu;refine B4 h h6 ?_;simp only[YOp.er,Lv.ev,Dv hx,N4 hk,wG hz,Kh];rw[if_pos h1]
    try dsimp only
    rw[h5]
    try dsimp only
    rw[if_pos h7];have:=wP hu;rw[E9]at this;simp only[rowsOf,<-this,AF,A6,AN.fg]
   .cases h
  .cases h
 .cases h
theorem vH{d:Nat}{c:C}{x y:YO}(h:ev (.cpy d c x y:YOp R) S K=some r):Plain (.cpy d c x y:YOp R) S K r:=by
 simp only[ev]at h;split at h
 .rename_i q ly hx hy;split at h
  .rename_i c' xs0 w hat hw;split at h
   .rename_i ys xs hys hxs;split at h
    .rename_i hc;obtain⟨hne,h⟩:=Lf h;have hcc:c'=c:=by
      simp only[Rw.as]at hxs;split at hxs
      .rename_i hc;exact hc
      .cases hxs
     subst hcc;have hx0:xs0=xs:=by simp only[Rw.as]at hxs;simpa using hxs
     subst hx0;have h2:=La (R:=R) hw;rw[Ul hys]at h2;have h3:=Dv (R:=R) hx;simp only[AN.fg]at h3;have hwd:(S.fg R).wide c'.size (AN.fg R ly)=true:=by
      refine Ol hc.1 ?_;unfold St.elems at hw;split at hw
      .exact .inr (.inl ⟨_,_,rfl⟩)
      .exact .inl ⟨_,_,_,rfl⟩
      .exact .inr (.inr rfl)
      .cases hw
     have hemp:(xs0.map (enc c')).isEmpty=false:=by cases xs0<;>simp_all
     have hy':=Dv (R:=R) hy;generalize AN.fg R ly=L at hy' h2 hwd;refine B4 h ((A5.BT _ _ _).trans (A5.kill _ _)) ?_;simp only[YOp.er,Lv.ev,h3,hy',Ht,hat,Ab,AN.fg,U.fg,h2];rw[if_pos ⟨trivial,hwd,Hl hc.2 _,Hl hc.2 _,hemp⟩,<-H0 (Mj q),FP];simp only[AN.fg,U.fg,C0,CQ,CA,AZ,AF,A6]
    .cases h
   .cases h
  .cases h
 .cases h
theorem zu{d:Nat}{m:Bool}{x y:YO}(h:ev (.mm d m x y:YOp R) S K=some r):Plain (.mm d m x y:YOp R) S K r:=by
 simp only[ev]at h;split at h
 .rename_i k a k' b h1 h2;split at h
  .rename_i hk;exact B4 h (A5.refl _) (by simp only[YOp.er,Lv.ev,Ku h1,Ku h2,U.fg];rw[if_pos hk];rfl)
  .cases h
 .cases h
theorem n6{x:YO}{q:Bj}{ks:List (Int×Int)}(h:S.N2 x=some (q,ks)):(S.fg R).N2 (x.er R)=some (q,ks):=by
 unfold St.N2 at h;split at h
 .rename_i r0 h1;split at h
  .rename_i ks0 h2;cases h;have:=Dv (R:=R) h1
   grind[AN.fg,Lv.St.N2,Ht,U.fg]
  .cases h
 .cases h
theorem vL{d:Nat}(h:ev (.mmk d:YOp R) S K=some r):Plain (.mmk d:YOp R) S K r:=by
 simp only[ev]at h;exact B4 h (A5.refl _) (by simp only[YOp.er,Lv.ev];rfl)
theorem gO{d:Nat}{x k:YO}(h:ev (.Oq d x k:YOp R) S K=some r):Plain (.Oq d x k:YOp R) S K r:=by
 simp only[ev]at h;split at h
 .rename_i q ks n h1 h2;exact B4 h (A5.refl _) (by simp only[YOp.er,Lv.ev,n6 h1,Ku h2,U.fg];rfl)
 .cases h
theorem AMp{d:Nat}{x:YO}(h:ev (.AMo d x:YOp R) S K=some r):Plain (.AMo d x:YOp R) S K r:=by
 simp only[ev]at h;split at h
 .rename_i q ks h1;exact B4 h (A5.refl _) (by simp only[YOp.er,Lv.ev,n6 h1];rfl)
 .cases h
theorem gR{x k v:YO}(h:ev (.N3 x k v:YOp R) S K=some r):Plain (.N3 x k v:YOp R) S K r:=by
 simp only[ev]at h;split at h
 .rename_i q ks n m h1 h2 h3;refine⟨_,?_,(A5.BT _ _ _).trans (A5.kill _ _),h⟩;simp only[YOp.er,Lv.ev,n6 h1,Ku h2,Ku h3,U.fg];rw[<-H0 (Mj q),FP];rfl
 .cases h
theorem zS{o:YOp R}(h:ev o S K=some r):∃S',A5 S S'/\K S'=some r/\∀N:Lv.St->Prop,N (S'.fg R)->opK HE o.er (S.fg R) N:=by
 have pl:Plain o S K r->∃S',A5 S S'/\K S'=some r/\∀N:Lv.St->Prop,N (S'.fg R)->opK HE o.er (S.fg R) N:=fun ⟨S',h1,h2,h3⟩=>⟨S',h2,h3,fun N hN=>.inl ⟨_,h1,hN⟩⟩
 cases o with
 |mv=>exact pl (AFd h)|as=>exact pl (AFY h)|pick=>exact pl (gT h)|alloc=>exact pl (Ye h)|box=>exact pl (vF h)|build=>exact pl (Yf h)|Bp=>exact pl (TB h)|ld=>exact pl (AFc h)|st=>exact pl (AFe h)|chk=>exact pl (vG h)|bin=>exact pl (vE h)|un=>exact pl (AFf h)|cvI=>exact pl (vI h)|Je=>exact pl (gK h)|NO=>exact pl (gJ h)|Pk=>exact pl (gP h)|Ji=>exact pl (gQ h)|sub=>exact pl (vM h)|P2=>exact pl (gU h)|fa=>exact pl (AFZ h)|ia=>exact pl (AFa h)|ix=>exact pl (AFb h)|ext=>exact pl (vJ h)|len=>exact pl (vK h)|lens=>exact pl (gM h)|app=>exact pl (vD h)|Oo=>exact pl (gH h)|cpy=>exact pl (vH h)|mm=>exact pl (zu h)|mmk=>exact pl (vL h)|Oq=>exact pl (gO h)|N3=>exact pl (gR h)|AMo=>exact pl (AMp h)|bad=>simp[ev]at h|drop ds=>exact pl ⟨_,by simp only[YOp.er,Lv.ev,nL],A5.GP _ _,h⟩|RT ns=>exact pl ⟨_,by simp only[YOp.er,Lv.ev,fm],A5.Mi _ _,h⟩|call d g fs hf args=>
  simp only[ev]at h;split at h
  .rename_i es he;obtain⟨S1,vs,cs,outs,S',h1,h2,h3,h4,h5⟩:=jO (Al.of hf) h;refine⟨S',h4,h5,fun N hN=>.inr ⟨d,g.x,es.map (En.fg R),S1,vs,_,cs,outs,_,?_,h1,h2,h3,hN⟩⟩;simp only[YOp.er,Lv.ER,TL he]
  .cases h
 |Dm d x ms args=>
  simp only[ev]at h;split at h
  .rename_i n caps es h0 he;split at h
   .rename_i g hg;split at h
    .rename_i hm;obtain⟨S1,vs,cs,outs,S',h1,h2,h3,h4,h5⟩:=jO (Al.nil _) h;refine⟨S',h4,h5,fun N hN=>.inr ⟨d,g.x,_,S1,vs,_,cs,outs,_,?_,h1,h2,h3,hN⟩⟩;have hx:xr R n=g.x:=by unfold xr;rw[hg]
     simp only[YOp.er,Lv.ER,Dv h0,TL he,AN.fg,hx];rw[if_pos (by rw[g.ms,hm])];simp only[C0,DB,AB,Prod.mk.injEq,true_and,List.append_cancel_left_eq];apply List.map_congr_left;intro c _;simp only[Function.comp,En.fg,AF,A6,Tg]
    .cases h
   .cases h
  .cases h
end
end Y
end Lv
namespace Lv
open Go (IntKind BinOp UnOp)
namespace Y
section
variable{R:List GF}{ρ:Type}
def BS.er:BS R->M9|.nil=>.nil|.op i g sf o rest=>.op i g sf o.er rest.er|.dr ds rest=>.dr ds rest.er|.nl ns rest=>.nl (ns.map fun p=>(p.1,p.2.size)) rest.er|.both _ a b=>.both a.er b.er
def E5.er:E5 R->J0|.skip=>.skip|.region ops _=>.region (ops.map fun p=>(p.1,p.2.er)) []|.SZ r _=>.SZ r.er []|.seq a b=>.seq a.er b.er|.join _ a b=>.seq a.er b.er|.cond c _ _ t e=>.cond c [] [] t.er e.er|.block id b=>.block id b.er|.loop _ b=>.loop b.er|.exit id=>.exit id|.ret=>.ret|.scope b=>.scope b.er|.or a b=>.or a.er b.er|.dead=>.dead|.AI2 _ b=>.loop b.er
theorem AKT(o:YOp R):o.er.XN=o.XN:=by cases o<;>rfl
theorem ZD{o:YOp R}{S:St}{K:St->Option ρ}{r:ρ}(h:JB o S K=some r):∃S',Lv.JB o.er (S.fg R)=some (S'.fg R)/\A5 S S'/\K S'=some r:=by
 unfold JB at h;unfold Lv.JB;rw[AKT];split at h
 .rename_i d hd;obtain⟨S',h1,h2,h3⟩:=Ub (R:=R) h;rw[hd];exact⟨S',h1,h2,h3⟩
 grind[A5.refl]
theorem AG4{s:Nat}{e x:Ent}:∀{l:List (Nat×Ent)},get l s=some x->e.fg R=x.fg R->fgE R (reE s e l)=fgE R l
 | [],h,_=>rfl|(k,y)::l,h,he=>by
  simp only[get]at h;simp only[reE];cases hb:Nat.beq k s with
  |true=>rw[hb]at h;cases h;simp only[fgE,AF,he]
  |false=>
   rw[hb]at h;have:=AG4 (l:=l) h he
   grind[fgE]
theorem zY{s:Nat}{e:Ent}:∀{l:List (Nat×Ent)} {k:Nat} {y:Ent},get (reE s e l) k=some y->y=e\/get l k=some y
 | [],k,y,h=>.inr h|(j,x)::l,k,y,h=>by
  simp only[reE]at h;cases hb:Nat.beq j s with
  |true=>
   grind[get,Nat.beq]
  |false=>
   rw[hb]at h;simp only[get]at h ⊢;cases hk:Nat.beq j k with
   |true=>rw[hk]at h;exact .inr h|false=>rw[hk]at h;exact zY h
theorem AKp{S:St}{s:Nat}{b:Bool}{v:Nat}(h:get S.tm s=some ⟨.one,[.t (.bool b)],v⟩):(S.lit s b).fg R=S.fg R/\A5 S (S.lit s b):=by
 refine⟨?_,by simp[St.lit],fun k e he hv=>?_,fun _ _ h _=>h,rfl⟩
 .simp only[St.fg,St.lit];have:=AG4 (R:=R) (e:=⟨.one,[.t (.bool b)],S.nv⟩) h rfl;rw[this]
 .rcases zY he with rfl|h1
  .grind
  .exact h1
def Gd(R:List GF)(g:Option (Nat×Bool))(o:YOp R)(S:Lv.St)(N:Lv.St->Prop):Prop:=
 ∃b,Lv.wanted S g=some b/\((b=true/\opK HE o.er S N)\/(b=false/\∃S',Lv.JB o.er S=some S'/\N S'))
theorem cX{S:St}{s:Nat}{w b:Bool}{v:Nat}(h:get S.tm s=some ⟨.one,[.t (.bool b)],v⟩):Lv.wanted (S.fg R) (some (s,w))=some (b==w):=by
 simp only[Lv.wanted,RB,h];rfl
theorem pe{S:St}{s:Nat}{w:Bool}{v:Nat}(h:get S.tm s=some ⟨.one,[.und],v⟩):Lv.wanted (S.fg R) (some (s,w))=some false:=by
 simp only[Lv.wanted,RB,h];rfl
theorem OM{S:St}{s:Nat}{w b:Bool}{v:Nat}{o:YOp R}{f:Option ρ}{K:St->Option ρ}{r:ρ}{P:Lv.St->(Lv.St->Prop)->Prop}(hg:get S.tm s=some ⟨.one,[.t (.bool b)],v⟩)(x:Bool)(hx:x=(b==w))
 (h:Yi x o (S.lit s b) f K=some r) (hf:f=some r->∃S',A5 (S.lit s b) S'/\K S'=some r/\∀N:Lv.St->Prop,N (S'.fg R)->P ((S.lit s b).fg R) N) :
 ∃S',A5 S S'/\K S'=some r/\∀N:Lv.St->Prop,N (S'.fg R)->∃b,Lv.wanted (S.fg R) (some (s,w))=some b/\((b=true/\P (S.fg R) N)\/(b=false/\∃S',Lv.JB o.er (S.fg R)=some S'/\N S')):=by
 obtain⟨hl,hk⟩:=AKp (R:=R) hg;cases x with
 |true=>
  obtain⟨S',h1,h2,h3⟩:=hf h;refine⟨S',hk.trans h1,h2,fun N hN=>⟨_,cX hg,.inl ⟨hx.symm,?_⟩⟩⟩
  grind
 |false=>
  obtain⟨S',h1,h2,h3⟩:=ZD (R:=R) h;refine⟨S',hk.trans h2,h3,fun N hN=>⟨_,cX hg,.inr ⟨hx.symm,_,?_,hN⟩⟩⟩
  rwa[hl]at h1
theorem AKX{g:Option (Nat×Bool)}{o:YOp R}{S:St}{K:St->Option ρ}{r:ρ}(h:evg g o S K=some r) :
 ∃S',A5 S S'/\K S'=some r/\∀N:Lv.St->Prop,N (S'.fg R)->Gd R g o (S.fg R) N:=by
 unfold evg at h;split at h
 .obtain⟨S',h1,h2,h3⟩:=zS h;exact⟨S',h1,h2,fun N hN=>⟨true,rfl,.inl ⟨rfl,h3 N hN⟩⟩⟩
 .rename_i s w;split at h
  .rename_i b v hg;rcases wW h with ⟨rfl,h'⟩|⟨rfl,h'⟩
   .exact OM (P:=opK HE o.er) hg w (by cases w<;>rfl) h' fun hf=>zS hf
   .exact OM (P:=opK HE o.er) hg (!w) (by cases w<;>rfl) h' fun hf=>zS hf
  .rename_i v hg;obtain⟨S',h1,h2,h3⟩:=ZD (R:=R) h;exact⟨S',h2,h3,fun N hN=>⟨false,pe hg,.inr ⟨rfl,_,h1,hN⟩⟩⟩
  .cases h
theorem AD7:∀{ops:List (Option (Nat×Bool)×YOp R)} {S:St} {K:St->Option ρ} {r:ρ},evs ops S K=some r ->
 ∃S',A5 S S'/\K S'=some r/\∀N:Lv.St->Prop,N (S'.fg R)->vO HE (ops.map fun p=>(p.1,p.2.er)) (S.fg R) N
 | [],S,K,r,h=>⟨S,A5.refl _,h,fun N hN=>hN⟩|(g,o)::ops,S,K,r,h=>by
  have h':evg g o S (fun S'=>evs ops S' K)=some r:=by
   grind[evs,force_eq]
  obtain⟨S1,h1,h2,h3⟩:=AKX h';obtain⟨S2,h4,h5,h6⟩:=AD7 h2;exact⟨S2,h1.trans h4,h5,fun N hN=>h3 _ (h6 N hN)⟩
theorem AL9(o:YOp R):o.er.wr=o.wr.map (YO.er R):=by cases o<;>rfl
theorem R7(l:AN):∀(ks:List PK) (es:List En),Lv.HT (AN.fg R l) (ks.map PK.md) (es.map (En.fg R))=HT l ks es
 | [],es=>by cases es<;>rfl
 |k::ks,[]=>rfl|k::ks,e::es=>by
  simp only[AF,Lv.HT,HT,ch,En.fg,List.all_map,Function.comp_def,ACs,R7 l ks es]
theorem AIj{S:St}{l:AN}(h:S.KB l=true):(S.fg R).KB (AN.fg R l)=true:=by
 unfold St.KB at h;split at h
 .simp only[AN.fg,Lv.St.KB,Lb,Option.isSome_map];exact h
 .rfl
 .rename_i s cs;cases cs<;>simp_all[AN.fg,Lv.St.KB]
 .grind[AN.fg,Lv.St.KB,Ht,AIp]
 .rfl
 .rfl
 .cases h
theorem jP{o:YOp R}{S:Lv.St}(h1:∀d g fs hf args,o≠.call d g fs hf args)(h2:∀d x ms args,o≠.Dm d x ms args):Lv.ER o.er S=none:=by
 cases o<;>first|rfl|(exact(h1 _ _ _ _ _ rfl).elim)|(exact(h2 _ _ _ _ rfl).elim)
theorem AHA{o:YOp R}{S:St}{l:AN}(h:O3 o S l=true):Lv.O3 o.er (S.fg R) (AN.fg R l)=true:=by
 unfold O3 at h;simp only[AD]at h;obtain⟨h1,h2⟩:=h;unfold Lv.O3;rw[AIj h1,Bool.true_and];have hr2:(AN.fg R l).BX=l.BX:=H5 l;have gen:(∀d g fs hf args,o≠.call d g fs hf args)->(∀d x ms args,o≠.Dm d x ms args) ->
  (match o.wr with|some y=>(match S.one y with|some lt=>l.BX.isNone||!(match l.BX with|some r=>isR lt.BX r|none=>lt.BX.isNone)|none=>false)|none=>true)=true ->
  (match Lv.ER o.er (S.fg R) with
  |some (_,f,es)=>Lv.HT (AN.fg R l) (Dc f) es|none=>match o.er.wr with
   |some y=>(match (S.fg R).one y with|some lt=>(AN.fg R l).BX.isNone||decide ((AN.fg R l).BX≠lt.BX)|none=>true)
   |none=>true)=true:=by
  intro n1 n2 h;rw[jP n1 n2,AL9];cases hy:o.wr with
  |none=>rfl|some y=>
   rw[hy]at h;dsimp only at h;cases ho:S.one y with
   |none=>rw[ho]at h;cases h
   |some lt=>
    rw[ho]at h;dsimp only at h ⊢;simp only[Ab,Dv ho];rw[hr2,H5,decide_not,<-AG8];exact h
 cases o with
 |st n x v=>
  dsimp only at h2;have h4:Lv.names (AN.fg R l)=names l:=YT l;generalize AN.fg R l=L at h4 hr2 ⊢;cases ho:S.one x with
  |none=>rw[ho]at h2;cases h2
  |some lp=>
   rw[ho]at h2;have h3:=Dv (R:=R) ho;simp only[YOp.er,h3];cases lp with
   |bp id o=>
    dsimp only at h2;show (!(Lv.names L).contains id)=true;rw[h4,List.contains_eq_mem,<-OZ];exact h2
   |ep r0 i j=>
    dsimp only at h2;show decide (L.BX≠some r0)=true;rw[hr2];rw[Su]at h2;simpa using h2
   |_=>cases h2
 |call d g fs hf args=>
  dsimp only at h2;cases hr:S.rds args with
  |none=>rw[hr]at h2;cases h2
  |some es=>
   rw[hr]at h2;have h3:=R7 (R:=R) l g.ps es;generalize AN.fg R l=L at h3 ⊢;simp only[YOp.er,Lv.ER,TL hr,g.ms];rw[h3];exact h2
 |Dm d x ms args=>
  dsimp only at h2;split at h2
  .rename_i n caps es h4 h5;split at h2
   .rename_i g h6;split at h2
    .rename_i h7;have hx:xr R n=g.x:=by unfold xr;rw[h6]
     have h8:=R7 (R:=R) l g.ps (es++caps.map fun l=>⟨.one,[l.leaf]⟩);rw[C0,DB]at h8;rw[show (En.fg R∘fun l=>(⟨.one,[l.leaf]⟩:En))=((fun l=>(⟨Sh.one,[l]⟩:Lv.Ent))∘Cap.fg) from by funext c;simp only[Function.comp,En.fg,AF,A6,Tg],<-DB]at h8;have h9:=Dv (R:=R) h4;simp only[AN.fg,hx]at h9;generalize AN.fg R l=L at h8 ⊢;simp only[YOp.er,Lv.ER,h9,TL h5];rw[if_pos (by rw[g.ms,h7])];dsimp only;rw[g.ms,h8];exact h2
    .cases h2
   .cases h2
  .cases h2
 |_=>exact gen (by intros;simp) (by intros;simp) h2
theorem pB{o:YOp R}{S:St}:∀{sf:List Nat},HM o S sf=true->Lv.HM o.er (S.fg R) sf=true
 | [],h=>rfl|s::sf,h=>by
  simp only[HM,AD]at h;obtain⟨h1,h2⟩:=h;simp only[Lv.HM,AD];refine⟨?_,pB h2⟩;split at h1
  .rename_i l hl;have:=Dv (R:=R) hl
   grind[YO.er,AHA]
  .cases h1
theorem dR:∀{a b:List (Option Nat)},AAs a b=true->a=b
 | [],[],_=>rfl|none::r,none::r',h=>by simp only[AAs]at h;rw[dR h]|some a::r,some b::r',h=>by simp only[AAs,AD]at h;rw[beq_true h.1,dR h.2]| [],_::_,h=>by cases h
 |none::_,[],h=>by cases h
 |some _::_,[],h=>by cases h
 |none::_,some _::_,h=>by cases h
 |some _::_,none::_,h=>by cases h
theorem AIb{a b:Sh}(h:AKV a b=true):a=b:=by
 cases a<;>cases b<;>first|rfl|(cases h;done)|(simp only[AKV]at h;first|rw[dR h]|rw[beq_true h])
theorem nP:∀{a b:Option (Nat×Nat)},zP a b=true->a=b
 |none,none,_=>rfl|some (a,b),some (a',b'),h=>by simp only[zP,AD]at h;rw[beq_true h.1,beq_true h.2]|none,some _,h=>by cases h
 |some _,none,h=>by cases h
theorem TU:∀{a b:Bj},Bj.is a b=true->a=b
 |.tmp s c,.tmp s' c',h=>by
  grind[Bj.is,beq_true]
 |.cell s c,.cell s' c',h=>by
  simp only[Bj.is]at h
  grind[beq_true]
 |.tmp _ _,.cell _ _,h=>by cases h
 |.cell _ _,.tmp _ _,h=>by cases h
theorem nO{a b:Src}(h:zO a b=true):a=b:=by
 cases a<;>cases b<;>simp only[zO,AD]at h<;>first|(cases h;done)|rw[TU h.1,nP h.2]|rw[beq_true h]
theorem zN:∀{a b:List (Nat×Nat)},AIa a b=true->a=b
 | [],[],_=>rfl|(a,b)::r,(a',b')::r',h=>by simp only[AIa,AD]at h;rw[beq_true h.1.1,beq_true h.1.2,zN h.2]| [],_::_,h=>by cases h
 |_::_,[],h=>by cases h
theorem Nv{γ:Type}{b:Bool}{x:Option γ}{r:γ}(h:ifB b x=some r):b=true/\x=some r:=by
 grind
theorem pw{x y:U}{X:Option ρ}{r:ρ}(h:agU x y X=some r):x=y/\X=some r:=by
 cases x<;>cases y<;>simp only[agU]at h<;>first|(cases h;done)|exact⟨rfl,h⟩|skip
 .grind[Nn]
 .grind[Nn]
 .obtain⟨rfl,h1⟩:=Nn h;exact⟨rfl,h1⟩
 .obtain⟨rfl,h1⟩:=Nn h;exact⟨rfl,h1⟩
 .grind[Nn]
 grind[Nn]
theorem wH:∀{x y:List U} {X:Option ρ} {r:ρ},AJu x y X=some r->x=y/\X=some r
 | [],[],X,r,h=>⟨rfl,h⟩|a::x,b::y,X,r,h=>by
  obtain⟨rfl,h1⟩:=pw h;obtain⟨rfl,h2⟩:=wH h1;exact⟨rfl,h2⟩
 | [],_::_,_,_,h=>by cases h
 |_::_,[],_,_,h=>by cases h
theorem ADL{c c':C}{xs:List c.D}{ys:List c'.D}{X:Option ρ}{r:ρ}(h:(if h:c'=c then eqv xs (h▸ys) X else none)=some r):(⟨c,xs⟩:(c:C)×List c.D)=⟨c',ys⟩/\X=some r:=by
 grind[Nn]
theorem AHo:∀{x y:AN} {X:Option ρ} {r:ρ},ALY x y X=some r->x=y/\X=some r
 |.t x,.t y,X,r,h=>by obtain⟨rfl,h1⟩:=pw h;exact⟨rfl,h1⟩
 |.und,.und,X,r,h=>⟨rfl,h⟩|.ow x,.ow y,X,r,h=>by obtain⟨rfl,h1⟩:=pw h;exact⟨rfl,h1⟩
 |.owh c xs hs,.owh c' ys hs',X,r,h=>by
  obtain⟨h1,h3⟩:=Nv h;obtain⟨h2,h4⟩:=ADL h3;cases h2;rw[zN h1];exact⟨rfl,h4⟩
 |.al r0 s,.al r' s',X,r,h=>by
  obtain⟨h1,h⟩:=Nv h
  grind[TU,nP]
 |.ep r0 i j,.ep r' i' j',X,r,h=>by
  obtain⟨h1,h⟩:=Nv h
  grind[Nn,TU,beq_true]
 |.vw s c xs,.vw s' c' ys,X,r,h=>by
  obtain⟨h1,h3⟩:=Nv h;obtain⟨h2,h4⟩:=ADL h3;cases h2;rw[nO h1];exact⟨rfl,h4⟩
 |.vp s cs,.vp s' cs',X,r,h=>by
  obtain⟨h1,h⟩:=Nv h;obtain⟨rfl,h4⟩:=wH h;rw[nO h1];exact⟨rfl,h4⟩
 |.bp a o,.bp a' o',X,r,h=>by
  obtain⟨h1,h⟩:=Nv h
  grind[beq_true]
 |.fn _ _,.fn _ _,_,_,h=>by cases h
 |.t _,.und,_,_,h=>by cases h
 |.t _,.ow _,_,_,h=>by cases h
 |.t _,.owh _ _ _,_,_,h=>by cases h
 |.t _,.al _ _,_,_,h=>by cases h
 |.t _,.ep _ _ _,_,_,h=>by cases h
 |.t _,.vw _ _ _,_,_,h=>by cases h
 |.t _,.vp _ _,_,_,h=>by cases h
 |.t _,.bp _ _,_,_,h=>by cases h
 |.t _,.fn _ _,_,_,h=>by cases h
 |.und,.t _,_,_,h=>by cases h
 |.und,.ow _,_,_,h=>by cases h
 |.und,.owh _ _ _,_,_,h=>by cases h
 |.und,.al _ _,_,_,h=>by cases h
 |.und,.ep _ _ _,_,_,h=>by cases h
 |.und,.vw _ _ _,_,_,h=>by cases h
 |.und,.vp _ _,_,_,h=>by cases h
 |.und,.bp _ _,_,_,h=>by cases h
 |.und,.fn _ _,_,_,h=>by cases h
 |.ow _,.t _,_,_,h=>by cases h
 |.ow _,.und,_,_,h=>by cases h
 |.ow _,.owh _ _ _,_,_,h=>by cases h
 |.ow _,.al _ _,_,_,h=>by cases h
 |.ow _,.ep _ _ _,_,_,h=>by cases h
 |.ow _,.vw _ _ _,_,_,h=>by cases h
 |.ow _,.vp _ _,_,_,h=>by cases h
 |.ow _,.bp _ _,_,_,h=>by cases h
 |.ow _,.fn _ _,_,_,h=>by cases h
 |.owh _ _ _,.t _,_,_,h=>by cases h
 |.owh _ _ _,.und,_,_,h=>by cases h
 |.owh _ _ _,.ow _,_,_,h=>by cases h
 |.owh _ _ _,.al _ _,_,_,h=>by cases h
 |.owh _ _ _,.ep _ _ _,_,_,h=>by cases h
 |.owh _ _ _,.vw _ _ _,_,_,h=>by cases h
 |.owh _ _ _,.vp _ _,_,_,h=>by cases h
 |.owh _ _ _,.bp _ _,_,_,h=>by cases h
 |.owh _ _ _,.fn _ _,_,_,h=>by cases h
 |.al _ _,.t _,_,_,h=>by cases h
 |.al _ _,.und,_,_,h=>by cases h
 |.al _ _,.ow _,_,_,h=>by cases h
 |.al _ _,.owh _ _ _,_,_,h=>by cases h
 |.al _ _,.ep _ _ _,_,_,h=>by cases h
 |.al _ _,.vw _ _ _,_,_,h=>by cases h
 |.al _ _,.vp _ _,_,_,h=>by cases h
 |.al _ _,.bp _ _,_,_,h=>by cases h
 |.al _ _,.fn _ _,_,_,h=>by cases h
 |.ep _ _ _,.t _,_,_,h=>by cases h
 |.ep _ _ _,.und,_,_,h=>by cases h
 |.ep _ _ _,.ow _,_,_,h=>by cases h
 |.ep _ _ _,.owh _ _ _,_,_,h=>by cases h
 |.ep _ _ _,.al _ _,_,_,h=>by cases h
 |.ep _ _ _,.vw _ _ _,_,_,h=>by cases h
 |.ep _ _ _,.vp _ _,_,_,h=>by cases h
 |.ep _ _ _,.bp _ _,_,_,h=>by cases h
 |.ep _ _ _,.fn _ _,_,_,h=>by cases h
 |.vw _ _ _,.t _,_,_,h=>by cases h
 |.vw _ _ _,.und,_,_,h=>by cases h
 |.vw _ _ _,.ow _,_,_,h=>by cases h
 |.vw _ _ _,.owh _ _ _,_,_,h=>by cases h
 |.vw _ _ _,.al _ _,_,_,h=>by cases h
 |.vw _ _ _,.ep _ _ _,_,_,h=>by cases h
 |.vw _ _ _,.vp _ _,_,_,h=>by cases h
 |.vw _ _ _,.bp _ _,_,_,h=>by cases h
 |.vw _ _ _,.fn _ _,_,_,h=>by cases h
 |.vp _ _,.t _,_,_,h=>by cases h
 |.vp _ _,.und,_,_,h=>by cases h
 |.vp _ _,.ow _,_,_,h=>by cases h
 |.vp _ _,.owh _ _ _,_,_,h=>by cases h
 |.vp _ _,.al _ _,_,_,h=>by cases h
 |.vp _ _,.ep _ _ _,_,_,h=>by cases h
 |.vp _ _,.vw _ _ _,_,_,h=>by cases h
 |.vp _ _,.bp _ _,_,_,h=>by cases h
 |.vp _ _,.fn _ _,_,_,h=>by cases h
 |.bp _ _,.t _,_,_,h=>by cases h
 |.bp _ _,.und,_,_,h=>by cases h
 |.bp _ _,.ow _,_,_,h=>by cases h
 |.bp _ _,.owh _ _ _,_,_,h=>by cases h
 |.bp _ _,.al _ _,_,_,h=>by cases h
 |.bp _ _,.ep _ _ _,_,_,h=>by cases h
 |.bp _ _,.vw _ _ _,_,_,h=>by cases h
 |.bp _ _,.vp _ _,_,_,h=>by cases h
 |.bp _ _,.fn _ _,_,_,h=>by cases h
 |.fn _ _,.t _,_,_,h=>by cases h
 |.fn _ _,.und,_,_,h=>by cases h
 |.fn _ _,.ow _,_,_,h=>by cases h
 |.fn _ _,.owh _ _ _,_,_,h=>by cases h
 |.fn _ _,.al _ _,_,_,h=>by cases h
 |.fn _ _,.ep _ _ _,_,_,h=>by cases h
 |.fn _ _,.vw _ _ _,_,_,h=>by cases h
 |.fn _ _,.vp _ _,_,_,h=>by cases h
 |.fn _ _,.bp _ _,_,_,h=>by cases h
theorem cm:∀{x y:List AN} {X:Option ρ} {r:ρ},AHp x y X=some r->x=y/\X=some r
 | [],[],X,r,h=>⟨rfl,h⟩|a::x,b::y,X,r,h=>by
  obtain⟨rfl,h1⟩:=AHo h;obtain⟨rfl,h2⟩:=cm h1;exact⟨rfl,h2⟩
 | [],_::_,_,_,h=>by cases h
 |_::_,[],_,_,h=>by cases h
theorem UM{a b:Nat}(h:Nat.blt a b=true):a<b:=by simp[Nat.blt]at h;omega
theorem pt{v:Nat}{P:Nat->Ent->Prop}(hP:∀k e e',P k e->P k e'->e=e'):∀{x y:List (Nat×Ent)} {X:Option ρ} {r:ρ},(∀k e,(k,e)∈x->e.ver<v->P k e)->(∀k e,(k,e)∈y->e.ver<v->P k e)->agE v x y X=some r->fgE R x=fgE R y/\X=some r
 | [],[],X,r,_,_,h=>⟨rfl,h⟩|(k,e)::x,(k',e')::y,X,r,hx,hy,h=>by
  simp only[agE]at h;split at h
  .rename_i hk;have:=beq_true hk;subst this;split at h
   .rename_i hv;simp only[AD]at hv;have:=hP k e e' (hx k e (BZ ..) (UM hv.1)) (hy k e' (BZ ..) (UM hv.2));subst this;obtain⟨h1,h2⟩:=pt hP (fun k e hm=>hx k e (Au _ hm)) (fun k e hm=>hy k e (Au _ hm)) h;exact⟨by unfold fgE at h1 ⊢;rw[AF,AF,h1],h2⟩
   .obtain⟨h3,h⟩:=Nv h;obtain⟨h4,h⟩:=cm h;obtain⟨h1,h2⟩:=pt hP (fun k e hm=>hx k e (Au _ hm)) (fun k e hm=>hy k e (Au _ hm)) h;exact⟨by unfold fgE at h1 ⊢;rw[AF,AF,h1];simp only[Ent.fg,AIb h3,h4],h2⟩
  .cases h
 | [],_::_,_,_,_,_,h=>by cases h
 |_::_,[],_,_,_,_,h=>by cases h
theorem pq{v:Nat}{P:Nat->Bx->Prop}(hP:∀k e e',P k e->P k e'->e=e'):∀{x y:List (Nat×Bx)} {X:Option ρ} {r:ρ},(∀k e,(k,e)∈x->e.ver<v->P k e)->(∀k e,(k,e)∈y->e.ver<v->P k e)->agB v x y X=some r->fgB R x=fgB R y/\X=some r
 | [],[],X,r,_,_,h=>⟨rfl,h⟩|(k,e)::x,(k',e')::y,X,r,hx,hy,h=>by
  simp only[agB]at h;split at h
  .rename_i hk;have:=beq_true hk;subst this;split at h
   .rename_i hv;simp only[AD]at hv;have:=hP k e e' (hx k e (BZ ..) (UM hv.1)) (hy k e' (BZ ..) (UM hv.2));subst this;obtain⟨h1,h2⟩:=pq hP (fun k e hm=>hx k e (Au _ hm)) (fun k e hm=>hy k e (Au _ hm)) h;exact⟨by unfold fgB at h1 ⊢;rw[AF,AF,h1],h2⟩
   .obtain⟨h4,h⟩:=cm h;obtain⟨h1,h2⟩:=pq hP (fun k e hm=>hx k e (Au _ hm)) (fun k e hm=>hy k e (Au _ hm)) h;exact⟨by unfold fgB at h1 ⊢;rw[AF,AF,h1,h4],h2⟩
  .cases h
 | [],_::_,_,_,_,_,h=>by cases h
 |_::_,[],_,_,_,_,h=>by cases h
theorem nq{α:Type}{k:Nat}{e:α}:∀{l:List (Nat×α)},(k,e)∈l->T1 k l=true
 |(j,x)::l,h=>by
  simp only[T1];cases hb:Nat.beq j k with
  |true=>rfl|false=>
   rcases Af.1 h with h|h
   .cases h;rw[JS]at hb;cases hb
   .exact nq h
theorem Lm{α:Type}{k:Nat}{e:α}:∀{l:List (Nat×α)},YV l=true->(k,e)∈l->get l k=some e
 |(j,x)::l,hd,h=>by
  simp only[YV,AD,A8]at hd;simp only[get];rcases Af.1 h with h|h
  .cases h;rw[JS]
  .cases hb:Nat.beq j k with
   |true=>rw[beq_true hb,nq h]at hd;cases hd.1
   |false=>exact Lm hd.2 h
theorem AJt{S A B:St}{X:Option ρ}{r:ρ}(hA:A5 S A)(hB:A5 S B)(h:agS S.nv A B X=some r):A.fg R=B.fg R/\X=some r:=by
 obtain⟨h1,h⟩:=Nv h;simp only[AD]at h1;obtain⟨⟨⟨n1,n2⟩,n3⟩,n4⟩:=h1;obtain⟨e1,h⟩:=pt (R:=R) (P:=fun k e=>get S.tm k=some e) (fun k e e' h h'=>by rw[h]at h';exact Option.some.inj h') (fun k e hm hv=>hA.tm k e (Lm n1 hm) hv) (fun k e hm hv=>hB.tm k e (Lm n2 hm) hv) h;obtain⟨e2,h⟩:=pq (R:=R) (P:=fun k e=>get S.bx k=some e) (fun k e e' h h'=>by rw[h]at h';exact Option.some.inj h') (fun k e hm hv=>hA.bx k e (Lm n3 hm) hv) (fun k e hm hv=>hB.bx k e (Lm n4 hm) hv) h;exact⟨by simp only[St.fg,e1,e2,hA.pin,hB.pin],h⟩
theorem Sb:∀{x:BS R} {S:St} {K:St->Option ρ} {r:ρ},evr x S K=some r ->
 ∃S',A5 S S'/\K S'=some r/\∀N:Lv.St->Prop,N (S'.fg R)->runK HE x.er (S.fg R) N
 |.nil,S,K,r,h=>⟨S,A5.refl _,h,fun N hN=>hN⟩|.dr ds x,S,K,r,h=>by
  obtain⟨S',h1,h2,h3⟩:=Sb (x:=x) h;refine⟨S',(A5.GP _ _).trans h1,h2,fun N hN=>?_⟩;have:=h3 N hN;rw[nL]at this;exact this
 |.nl ns x,S,K,r,h=>by
  obtain⟨S',h1,h2,h3⟩:=Sb (x:=x) h;refine⟨S',(A5.Mi _ _).trans h1,h2,fun N hN=>?_⟩;have:=h3 N hN;rw[fm]at this;exact this
 |.both n a b,S,K,r,h=>by
  have h:evr a S (fun A=>evr b S fun B=>agS S.nv A B (K A))=some r:=by
   cases n with
   |zero=>exact h|succ n=>simpa only[evr,wN] using h
  obtain⟨A,a1,a2,a3⟩:=Sb (x:=a) (K:=fun A=>evr b S fun B=>agS S.nv A B (K A)) h;obtain⟨B,b1,b2,b3⟩:=Sb (x:=b) (K:=fun B=>agS S.nv A B (K A)) a2;obtain⟨e,h2⟩:=AJt (R:=R) a1 b1 b2;exact⟨A,a1,h2,fun N hN=>⟨a3 N hN,b3 N (e▸hN)⟩⟩
 |.op i g sf o x,S,K,r,h=>by
  have safe:∀{S:St},(if HM o S sf=true then ev o S fun S'=>S'.force fun S'=>evr x S' K else none)=some r ->
   ∃S',A5 S S'/\evr x S' K=some r/\∀N:Lv.St->Prop,N (S'.fg R)->(Lv.HM o.er (S.fg R) sf=true/\opK HE o.er (S.fg R) N):=by
   intro S h;split at h
   .rename_i hs;obtain⟨S',h1,h2,h3⟩:=zS h;rw[force_eq]at h2;exact⟨S',h1,h2,fun N hN=>⟨pB hs,h3 N hN⟩⟩
   .cases h
  have key:∃S',A5 S S'/\evr x S' K=some r/\∀N:Lv.St->Prop,N (S'.fg R)->∃b,Lv.wanted (S.fg R) g=some b/\((b=true/\Lv.HM o.er (S.fg R) sf=true/\opK HE o.er (S.fg R) N)\/(b=false/\∃S',Lv.JB o.er (S.fg R)=some S'/\N S')):=by
   simp only[evr,AKa]at h;split at h
   .obtain⟨S',h1,h2,h3⟩:=safe h;exact⟨S',h1,h2,fun N hN=>⟨true,rfl,.inl ⟨rfl,h3 N hN⟩⟩⟩
   .rename_i s w;split at h
    .rename_i b v hg;rcases wW h with ⟨rfl,h'⟩|⟨rfl,h'⟩
     .refine OM (K:=fun S'=>evr x S' K) (P:=fun S N=>Lv.HM o.er S sf=true/\opK HE o.er S N) hg w (by cases w<;>rfl) (f:=if HM o (S.lit s true) sf=true then ev o (S.lit s true) fun S'=>S'.force fun S'=>evr x S' K else none) ?_ fun hf=>safe hf
      simpa only[force_eq] using h'
     .refine OM (K:=fun S'=>evr x S' K) (P:=fun S N=>Lv.HM o.er S sf=true/\opK HE o.er S N) hg (!w) (by cases w<;>rfl) (f:=if HM o (S.lit s false) sf=true then ev o (S.lit s false) fun S'=>S'.force fun S'=>evr x S' K else none) ?_ fun hf=>safe hf
      simpa only[force_eq] using h'
    .rename_i v hg;simp only[force_eq]at h;obtain⟨S',h1,h2,h3⟩:=ZD (R:=R) h;exact⟨S',h2,h3,fun N hN=>⟨false,pe hg,.inr ⟨rfl,_,h1,hN⟩⟩⟩
    .cases h
  obtain⟨S1,h1,h2,h3⟩:=key;obtain⟨S2,h4,h5,h6⟩:=Sb (x:=x) h2;exact⟨S2,h1.trans h4,h5,fun N hN=>h3 _ (h6 N hN)⟩
end
end Y
end Lv
namespace Lv
open Go (IntKind BinOp UnOp)
namespace Y
section
variable{R:List GF}{ρ:Type}
theorem AFE{s:Option Src}{l:AN}{x:U}(h:AFD s l=some x):AFC s x=l:=by
 unfold AFD at h;split at h
 .cases h
 .cases h
 .cases h
 .rename_i h1 h2 h3;cases h;cases s<;>cases x<;>first|rfl|(exact(h1 _ _ rfl).elim)|(exact(h2 rfl).elim)|(exact(h3 _ rfl).elim)
 .split at h
  .cases h;rfl
  .cases h
 .split at h
  .cases h;rfl
  .cases h
 .split at h
  .cases h
  .split at h
   .rename_i hq;subst hq;cases h;rfl
   .cases h
 .cases h
theorem bk{s:Option Src}:∀{ls:List AN} {us:List U},fc s ls=some us->us.map (AFC s)=ls
 | [],us,h=>by cases h;rfl
 |l::ls,us,h=>by
  simp only[fc]at h;split at h
  .rename_i x xs h1 h2;cases h;rw[AF,AFE h1,bk h2]
  .cases h
theorem AJp{a:AL}{ls:List AN}{x:a.D}(h:a.un ls=some x):a.leaf x=ls:=by
 cases a with
 |val c s=>
  simp only[AL.un]at h;split at h
  .rename_i us hu;simp only[AL.leaf];rw[S8 h,bk hu]
  .cases h
 |num k=>
  simp only[AL.un]at h;split at h
  .split at h
   .rename_i hk;subst hk;cases h;rfl
   .cases h
  .cases h
 |al r=>
  simp only[AL.un]at h;split at h
  .split at h
   .rename_i hk;subst hk;rfl
   .cases h
  .cases h
theorem iV:∀{as:List AL} {ls:List AN} {x:TA as},AJQ as ls=some x->N0 as x=ls
 | [],ls,x,h=>by
  cases ls with
  |nil=>rfl|cons l ls=>cases h
 | [a],ls,x,h=>AJp h|a::a'::as,ls,x,h=>by
  simp only[AJQ]at h;split at h
  .rename_i y z h1 h2;cases h;show a.leaf y++N0 (a'::as) z=ls;rw[AJp h1,iV h2,GL]
  .cases h
theorem IW{b:Bool}{k:Nat}:∀{c:Cut} {ls:List AN},KU b k c=false->look b k (seg c ls)=none
 | [],ls,h=>rfl|(b',d,sh,as)::c,ls,h=>by
  simp only[KU]at h;simp only[seg,look];split at h
  .cases h
  .exact IW h
theorem Sf{S:St}{k:Nat}:∀{c:Cut} {ls:List AN},MU S c=some ls->KU false k c=true->∃e,get S.tm k=some e/\look false k (seg c ls)=some (e.sh,e.cs)
 | [],ls,h,hv=>by cases hv
 |(false,d,sh,as)::c,ls,h,hv=>by
  simp only[MU]at h;split at h
  .rename_i e ls' h1 h2;split at h
   .rename_i hc;cases h;simp only[KU]at hv;simp only[seg,look];split at hv
    .rename_i hm;have hd:d=k:=by simpa[MJ] using hm
     subst hd;refine⟨e,h1,?_⟩;rw[CK hc.2,Rq hc.1]
    .rename_i hm;rw[B7 hc.2];exact Sf h2 hv
   .cases h
  .cases h
 |(true,d,sh,as)::c,ls,h,hv=>by
  simp only[MU]at h;split at h
  .rename_i e ls' h1 h2;split at h
   .rename_i hc;cases h;have ht:((true:Bool)==false)=false:=rfl;simp only[KU,ht,BJ]at hv;simp only[seg,look,ht,BJ];rw[B7 hc];exact Sf h2 hv
   .cases h
  .cases h
theorem Se{S:St}{k:Nat}:∀{c:Cut} {ls:List AN},MU S c=some ls->KU true k c=true->∃e sh,get S.bx k=some e/\look true k (seg c ls)=some (sh,e.cs)
 | [],ls,h,hv=>by cases hv
 |(true,d,sh,as)::c,ls,h,hv=>by
  simp only[MU]at h;split at h
  .rename_i e ls' h1 h2;split at h
   .rename_i hc;cases h;simp only[KU]at hv;simp only[seg,look];split at hv
    .rename_i hm;have hd:d=k:=by simpa[MJ] using hm
     subst hd;refine⟨e,sh,h1,?_⟩;rw[CK hc]
    .rename_i hm;rw[B7 hc];exact Se h2 hv
   .cases h
  .cases h
 |(false,d,sh,as)::c,ls,h,hv=>by
  simp only[MU]at h;split at h
  .rename_i e ls' h1 h2;split at h
   .rename_i hc;cases h;have ht:((false:Bool)==true)=false:=rfl;simp only[KU,ht,BJ]at hv;simp only[seg,look,ht,BJ];rw[B7 hc.2];exact Se h2 hv
   .cases h
  .cases h
theorem AAG{q:List (Bool×Nat×Sh×List AN)}{a:List (Nat×Ent)}{v:Nat}:∀{l:List (Nat×Ent)},(∀k e,(k,e)∈l->look false k q=some (e.sh,e.cs)\/(look false k q=none/\get a k=some e))->fgE R (Y4 q a v l)=fgE R l
 | [],_=>rfl|(k,e)::l,h=>by
  have ih:=AAG (v:=v) (l:=l) (fun k e hm=>h k e (Au _ hm));simp only[fgE,Y4,AF]at ih ⊢;rw[ih];rcases h k e (by simp) with h1|⟨h1,h2⟩
  .rw[h1];rfl
  .rw[h1,h2]
theorem AAF{q:List (Bool×Nat×Sh×List AN)}{a:List (Nat×Bx)}{v:Nat}:∀{l:List (Nat×Bx)},(∀k e,(k,e)∈l->(∃sh,look true k q=some (sh,e.cs))\/(look true k q=none/\get a k=some e))->fgB R (Y3 q a v l)=fgB R l
 | [],_=>rfl|(k,e)::l,h=>by
  have ih:=AAF (v:=v) (l:=l) (fun k e hm=>h k e (Au _ hm));simp only[fgB,Y3,AF]at ih ⊢;rw[ih];rcases h k e (by simp) with ⟨sh,h1⟩|⟨h1,h2⟩
  .rw[h1]
  .rw[h1,h2]
theorem Sy{α:Type}{k:Nat}{e:α}:∀{l:List (Nat×α)},(k,e)∈l->T1 k l=true
 |(j,x)::l,h=>by
  simp only[T1];cases hb:Nat.beq j k with
  |true=>rfl|false=>
   rcases Af.1 h with h|h
   .cases h;exact(beq_false hb rfl).elim
   .exact Sy h
theorem cK{c:Cut}{a:List (Nat×Ent)}:∀{l:List (Nat×Ent)} {k:Nat} {e:Ent},AAK c a l=true->(k,e)∈l->get l k=some e/\(KU false k c=true\/(KU false k c=false/\∃e',get a k=some e'/\e.ver=e'.ver))
 |(j,x)::l,k,e,h,hm=>by
  simp only[AAK,AD,A8]at h;obtain⟨⟨h1,h2⟩,h3⟩:=h;rcases Af.1 hm with hm|hm
  .grind[Prod.mk.injEq,get,Nat.beq,MJ,KU,beq_true]
  .obtain⟨h4,h5⟩:=cK h3 hm
   grind[get,Nat.beq,beq_true,Sy]
theorem cJ{c:Cut}{a:List (Nat×Bx)}:∀{l:List (Nat×Bx)} {k:Nat} {e:Bx},AAJ c a l=true->(k,e)∈l->get l k=some e/\(KU true k c=true\/(KU true k c=false/\∃e',get a k=some e'/\e.ver=e'.ver))
 |(j,x)::l,k,e,h,hm=>by
  simp only[AAJ,AD,A8]at h;obtain⟨⟨h1,h2⟩,h3⟩:=h;rcases Af.1 hm with hm|hm
  .grind[Prod.mk.injEq,get,Nat.beq,MJ,KU,beq_true]
  .obtain⟨h4,h5⟩:=cJ h3 hm
   grind[get,Nat.beq,beq_true,Sy]
theorem ADW{a b:Nat}(h:Nat.blt a b=true):a<b:=Nat.le_of_ble_eq_true h
theorem AAV{v:Nat}:∀{l:List (Nat×Ent)} {k:Nat} {e:Ent},wfE v l=true->get l k=some e->e.ver<v
 |(j,x)::l,k,e,h,hg=>by
  simp only[wfE,AD]at h;simp only[get]at hg;split at hg
  .cases hg;exact ADW h.1
  .exact AAV h.2 hg
theorem AAU{v:Nat}:∀{l:List (Nat×Bx)} {k:Nat} {e:Bx},wfB v l=true->get l k=some e->e.ver<v
 |(j,x)::l,k,e,h,hg=>by
  simp only[wfB,AD]at h;simp only[get]at hg;split at hg
  .cases hg;exact ADW h.1
  .exact AAU h.2 hg
structure Gk(c:Cut)(S S':St):Prop where
 tm:∀k e,KU false k c=false->get S'.tm k=some e->e.ver<S.nv->get S.tm k=some e
 bx:∀k e,KU true k c=false->get S'.bx k=some e->e.ver<S.nv->get S.bx k=some e
 pin:S'.pin=S.pin
theorem Gk.of{c:Cut}{S S':St}(h:A5 S S'):Gk c S S':=⟨fun k e _=>h.tm k e,fun k e _=>h.bx k e,h.pin⟩
theorem dU{c:Cut}{S S':St}{x:TA c.as}(h:c.fit S S'=some x)(hh:Gk c S S') :
 (c.st S S' x).fg R=S'.fg R /\
 (∀k e,(k,e)∈S'.tm->look false k (seg c (N0 c.as x))=some (e.sh,e.cs)\/(look false k (seg c (N0 c.as x))=none/\get S.tm k=some e)) /\
 (∀k e,(k,e)∈S'.bx->(∃sh,look true k (seg c (N0 c.as x))=some (sh,e.cs))\/(look true k (seg c (N0 c.as x))=none/\get S.bx k=some e)):=by
 unfold Cut.fit at h;split at h
 .rename_i hc;obtain⟨w1,w2,s1,s2⟩:=hc;split at h
  .rename_i ls hg;rw[iV h];have hE:∀k e,(k,e)∈S'.tm->look false k (seg c ls)=some (e.sh,e.cs)\/(look false k (seg c ls)=none/\get S.tm k=some e):=by
    intro k e hm;obtain⟨h1,h2⟩:=cK s1 hm;rcases h2 with h2|⟨h2,e',h3,h4⟩
    .obtain⟨e2,h5,h6⟩:=Sf hg h2;rw[h1]at h5;cases h5;exact .inl h6
    .exact .inr ⟨IW h2,hh.tm k e h2 h1 (by rw[h4];exact AAV w1 h3)⟩
   have hB:∀k e,(k,e)∈S'.bx->(∃sh,look true k (seg c ls)=some (sh,e.cs))\/(look true k (seg c ls)=none/\get S.bx k=some e):=by
    intro k e hm;obtain⟨h1,h2⟩:=cJ s2 hm;rcases h2 with h2|⟨h2,e',h3,h4⟩
    .obtain⟨e2,sh,h5,h6⟩:=Se hg h2;rw[h1]at h5;cases h5;exact .inl ⟨sh,h6⟩
    .exact .inr ⟨IW h2,hh.bx k e h2 h1 (by rw[h4];exact AAU w2 h3)⟩
   refine⟨?_,hE,hB⟩;simp only[St.fg,Cut.st,iV h];rw[AAG hE,AAF hB,hh.pin]
  .cases h
 .cases h
theorem cF{q:List (Bool×Nat×Sh×List AN)}{a:List (Nat×Ent)}{v:Nat}:∀{l l':List (Nat×Ent)},KP l l'=true->(∀k e,(k,e)∈l'->look false k q=some (e.sh,e.cs)\/(look false k q=none/\get a k=some e))->Y4 q a v l=Y4 q a v l'
 | [],[],_,_=>rfl| [],_::_,h,_=>by cases h
 |_::_,[],h,_=>by cases h
 |(k,e)::l,(k',e')::l',h,hl=>by
  simp only[KP,AD]at h;obtain⟨h1,h2⟩:=h;have:=beq_true h1;subst this;have ih:=cF (v:=v) h2 (fun k e hm=>hl k e (Au _ hm))
  grind[Y4]
theorem cE{q:List (Bool×Nat×Sh×List AN)}{a:List (Nat×Bx)}{v:Nat}:∀{l l':List (Nat×Bx)},KP l l'=true->(∀k e,(k,e)∈l'->(∃sh,look true k q=some (sh,e.cs))\/(look true k q=none/\get a k=some e))->Y3 q a v l=Y3 q a v l'
 | [],[],_,_=>rfl| [],_::_,h,_=>by cases h
 |_::_,[],h,_=>by cases h
 |(k,e)::l,(k',e')::l',h,hl=>by
  simp only[KP,AD]at h;obtain⟨h1,h2⟩:=h;have:=beq_true h1;subst this;have ih:=cE (v:=v) h2 (fun k e hm=>hl k e (Au _ hm))
  grind[Y3]
theorem Xc{q:List (Bool×Nat×Sh×List AN)}{a:List (Nat×Ent)}{v k:Nat}(hq:look false k q=none):∀{l:List (Nat×Ent)} {y:Ent},get (Y4 q a v l) k=some y->∃e,get l k=some e/\y=(match get a k with|some e'=>e'|none=>e)
 |(j,x)::l,y,h=>by
  simp only[Y4,get]at h ⊢;cases hb:Nat.beq j k with
  |true=>
   grind[beq_true,Option.some.inj]
  |false=>rw[hb]at h;exact Xc hq h
theorem Xb{q:List (Bool×Nat×Sh×List AN)}{a:List (Nat×Bx)}{v k:Nat}(hq:look true k q=none):∀{l:List (Nat×Bx)} {y:Bx},get (Y3 q a v l) k=some y->∃e,get l k=some e/\y=(match get a k with|some e'=>e'|none=>e)
 |(j,x)::l,y,h=>by
  simp only[Y3,get]at h ⊢;cases hb:Nat.beq j k with
  |true=>
   grind[beq_true,Option.some.inj]
  |false=>rw[hb]at h;exact Xb hq h
theorem Gk.round{c:Cut}{S S':St}{x:TA c.as}(h:A5 (c.st S S x) S'):Gk c S S':=by
 refine⟨fun k e hv hg hlt=>?_,fun k e hv hg hlt=>?_,h.pin⟩
 .have h1:=h.tm k e hg (HF hlt);obtain⟨e',h2,h3⟩:=Xc (IW hv) h1
  grind
 .have h1:=h.bx k e hg (HF hlt);obtain⟨e',h2,h3⟩:=Xb (IW hv) h1;rw[h2]at h3;subst h3;exact h2
theorem bL{c:Cut}{S S':St}{y:TA c.as}(h:c.fit S S'=some y)(hh:Gk c S S')(h1:KP S.tm S'.tm=true)(h2:KP S.bx S'.bx=true):(c.st S S y).fg R=S'.fg R:=by
 obtain⟨h3,h4,h5⟩:=dU (R:=R) h hh
 grind[St.fg,Cut.st,cF,cE]
theorem S4{b:Bool}{k:Nat}:∀{c:Cut} {ls:List AN},KU b k c=true->∃p,look b k (seg c ls)=some p
 |(b',d,sh,as)::c,ls,h=>by
  simp only[KU]at h;simp only[seg,look];split at h
  .exact⟨_,rfl⟩
  .exact S4 h
theorem oz{q:List (Bool×Nat×Sh×List AN)}{a:List (Nat×Ent)}{v k:Nat}{p:Sh×List AN}(hp:look false k q=some p):∀{l:List (Nat×Ent)} {y:Ent},get (Y4 q a v l) k=some y->v<=y.ver
 |(j,z)::l,y,h=>by
  simp only[Y4,get]at h;cases hb:Nat.beq j k with
  |true=>
   grind[beq_true]
  |false=>rw[hb]at h;exact oz hp h
theorem ou{q:List (Bool×Nat×Sh×List AN)}{a:List (Nat×Bx)}{v k:Nat}{p:Sh×List AN}(hp:look true k q=some p):∀{l:List (Nat×Bx)} {y:Bx},get (Y3 q a v l) k=some y->v<=y.ver
 |(j,z)::l,y,h=>by
  simp only[Y3,get]at h;cases hb:Nat.beq j k with
  |true=>
   grind[beq_true]
  |false=>rw[hb]at h;exact ou hp h
theorem A5.st{c:Cut}{S S':St}{x:TA c.as}(hk:A5 S S'):A5 S (c.st S S' x):=by
 refine⟨by simp[Cut.st],fun k e he hv=>?_,fun k e he hv=>?_,rfl⟩
 .cases hvk:KU false k c with
  |false=>
   obtain⟨e',h4,h5⟩:=Xc (IW hvk) he;cases hg:get S.tm k with
   |some e2=>rw[hg]at h5;subst h5;rfl|none=>
    rw[hg]at h5;subst h5;have:=hk.tm k _ h4 hv;rw[hg]at this;cases this
  |true=>
   obtain⟨p,hp⟩:=S4 (ls:=N0 c.as x) hvk;exact absurd hv (KZ.2 (oz hp he))
 .cases hvk:KU true k c with
  |false=>
   obtain⟨e',h4,h5⟩:=Xb (IW hvk) he;cases hg:get S.bx k with
   |some e2=>rw[hg]at h5;subst h5;rfl|none=>
    rw[hg]at h5;subst h5;have:=hk.bx k _ h4 hv;rw[hg]at this;cases this
  |true=>
   obtain⟨p,hp⟩:=S4 (ls:=N0 c.as x) hvk;exact absurd hv (KZ.2 (ou hp he))
theorem DN:∀{x:E5 R} {S:St} {K:Ex->St->Option ρ} {r:ρ} {Q:Ex->Lv.St->Prop},FZ x S K=some r->(∀e S',A5 S S'->K e S'=some r->Q e (S'.fg R))->wp HE x.er (S.fg R) Q
 |.skip,S,K,r,Q,h,hQ=>hQ _ _ (A5.refl _) h|.region ops EM,S,K,r,Q,h,hQ=>by
  obtain⟨S',h1,h2,h3⟩:=AD7 (show evs ops S _=some r from h);rw[force_eq]at h2;refine h3 _ ⟨S'.clo 6 (S'.pin++EM),?_⟩;rw[<-QD];exact hQ _ _ (h1.trans (A5.clean _ _)) h2
 |.SZ x EM,S,K,r,Q,h,hQ=>by
  obtain⟨S',h1,h2,h3⟩:=Sb (show evr x S _=some r from h);rw[force_eq]at h2;refine h3 _ ⟨S'.clo 6 (S'.pin++EM),?_⟩;rw[<-QD];exact hQ _ _ (h1.trans (A5.clean _ _)) h2
 |.seq a b,S,K,r,Q,h,hQ=>by
  refine DN (x:=a) (show FZ a S _=some r from h) fun e S' hk h'=>?_
  cases e with
  |n=>exact DN (x:=b) h' fun e S2 hk2 h2=>hQ _ _ (hk.trans hk2) h2|x i=>exact hQ _ _ hk h'|r=>exact hQ _ _ hk h'
 |.join c a b,S,K,r,Q,h,hQ=>by
  refine DN (x:=a) (show FZ a S _=some r from h) fun e S' hk h'=>?_
  cases e with
  |n=>
   dsimp only at h' ⊢;split at h'
   .rename_i x hx;have h':(c.st S S' x).force (fun S=>FZ b S K)=some r:=by rw[<-AE7 (fun x=>(c.st S S' x).force fun S=>FZ b S K) x];exact h'
    rw[force_eq]at h';obtain⟨h3,_,_⟩:=dU (R:=R) hx (Gk.of hk);rw[<-h3];refine DN (x:=b) h' fun e S2 hk2 h2=>hQ _ _ ?_ h2
    exact(A5.st hk).trans hk2
   .cases h'
  |x i=>exact hQ _ _ hk h'|r=>exact hQ _ _ hk h'
 |.cond c kt ke t e,S,K,r,Q,h,hQ=>by
  simp only[FZ]at h;split at h
  .rename_i b hb;have hs:=Ku (R:=R) hb;simp only[YO.er,U.fg]at hs;rcases wW h with ⟨rfl,h'⟩|⟨rfl,h'⟩
   .rw[force_eq]at h';refine⟨true,hs,S.clo 6 (S.pin++kt),?_⟩;rw[if_pos rfl,<-QD];exact DN (x:=t) h' fun e S2 hk2 h2=>hQ _ _ ((A5.clean _ _).trans hk2) h2
   .rw[force_eq]at h';refine⟨false,hs,S.clo 6 (S.pin++ke),?_⟩;rw[if_neg (by simp),<-QD];exact DN (x:=e) h' fun e S2 hk2 h2=>hQ _ _ ((A5.clean _ _).trans hk2) h2
  .cases h
 |.block id b,S,K,r,Q,h,hQ=>by
  refine DN (x:=b) (show FZ b S _=some r from h) fun e S' hk h'=>?_
  cases e with
  |n=>exact hQ _ _ hk h'|x i=>
   dsimp only at h' ⊢;split at h'
   .rename_i hi;rw[if_pos hi];exact hQ _ _ hk h'
   .rename_i hi;rw[if_neg hi];exact hQ _ _ hk h'
  |r=>exact hQ _ _ hk h'
 |.loop c b,S,K,r,Q,h,hQ=>by
  simp only[FZ]at h;split at h
  .rename_i x0 hx0;have key:∀(n:Nat) (x:TA c.as),Aw (fun L x=>(c.st S S x).force fun S1=>FZ b S1 fun e S'=>match e with
    |.n=>if KP S.tm S'.tm=true/\KP S.bx S'.bx=true then (match c.fit S S' with|some y=>L y|none=>none) else none
    |.x i=>K (.x i) S'|.r=>K .r S') n x=some r->zm (wp HE b.er) n ((c.st S S x).fg R) Q:=by
    intro n
    induction n with
    |zero=>intro x h;rw[zn]at h;cases h
    |succ n ih=>
     intro x h;rw[DF]at h;rw[force_eq]at h;refine DN (x:=b) h fun e S' hk h'=>?_
     have hS:A5 S (c.st S S x):=A5.st (A5.refl S);cases e with
     |n=>
      dsimp only at h' ⊢;split at h'
      .rename_i hsk;split at h'
       .rename_i y hy;rw[<-bL hy (Gk.round hk) hsk.1 hsk.2];exact ih y h'
       .cases h'
      .cases h'
     |x i=>exact hQ _ _ (hS.trans hk) h'|r=>exact hQ _ _ (hS.trans hk) h'
   refine⟨big,?_⟩;obtain⟨h3,_,_⟩:=dU (R:=R) hx0 (Gk.of (A5.refl S));rw[<-h3];exact key big x0 h
  .cases h
 |.exit id,S,K,r,Q,h,hQ=>hQ _ _ (A5.refl _) h|.ret,S,K,r,Q,h,hQ=>hQ _ _ (A5.refl _) h|.scope b,S,K,r,Q,h,hQ=>DN (x:=b) (show FZ b S K=some r from h) hQ|.or a b,S,K,r,Q,h,hQ=>(AK3 (show orX (FZ a S K) (FZ b S K)=some r from h)).elim (fun h=>.inl (DN (x:=a) h hQ)) fun h=>.inr (DN (x:=b) h hQ)|.dead,S,K,r,Q,h,hQ=>by cases h
 |.AI2 c b,S00,K,r,Q,h,hQ=>by
  refine⟨big+1,?_⟩;refine DN (x:=b) (show FZ b S00 _=some r from h) fun e S hk0 h=>?_
  cases e with
  |n=>
   dsimp only at h ⊢;split at h
   .rename_i x0 hx0;have key:∀(n:Nat) (x:TA c.as),Aw (fun L x=>(c.st S S x).force fun S1=>FZ b S1 fun e S'=>match e with
     |.n=>if KP S.tm S'.tm=true/\KP S.bx S'.bx=true then (match c.fit S S' with|some y=>L y|none=>none) else none
     |.x i=>K (.x i) S'|.r=>K .r S') n x=some r->zm (wp HE b.er) n ((c.st S S x).fg R) Q:=by
     intro n
     induction n with
     |zero=>intro x h;rw[zn]at h;cases h
     |succ n ih=>
      intro x h;rw[DF]at h;rw[force_eq]at h;refine DN (x:=b) h fun e S' hk h'=>?_
      have hS:A5 S (c.st S S x):=A5.st (A5.refl S);cases e with
      |n=>
       dsimp only at h' ⊢;split at h'
       .rename_i hsk;split at h'
        .rename_i y hy;rw[<-bL hy (Gk.round hk) hsk.1 hsk.2];exact ih y h'
        .cases h'
       .cases h'
      |x i=>exact hQ _ _ (hk0.trans (hS.trans hk)) h'|r=>exact hQ _ _ (hk0.trans (hS.trans hk)) h'
    obtain⟨h3,_,_⟩:=dU (R:=R) hx0 (Gk.of (A5.refl S));rw[<-h3];exact key big x0 h
   .cases h
  |x i=>exact hQ _ _ hk0 h|r=>exact hQ _ _ hk0 h
end
end Y
end Lv
namespace Lv
open Go (IntKind BinOp UnOp)
namespace Y
section
variable{R:List GF}{ρ:Type}
def ALo:C->Bool|.st _=>true|.un _=>true|_=>false
def jQ:List (Bool×C)->Bool| []=>true|(true,_)::r=>jQ r|(false,c)::r=>(!ALo c&&decide (c≠.m))&&jQ r
def oN:List PK->Bool| []=>true|.f _ l::r=>jQ l&&oN r|_::r=>oN r
theorem dB(i:Nat):∀(l:List (Bool×C)) (x:cj l),jQ l=true->Lv.K3 i (NM l x)=some ((K3 i l x).map Cap.fg)
 | [],x,h=>rfl|(true,c)::l,x,h=>by
  have ih:=dB i l x.2 h;simp only[NM,Lv.K3,K3,AF,Cap.fg];rw[ih,EC];rfl
 |(false,c)::l,x,h=>by
  simp only[jQ,AD,A8,decide_eq_true_eq]at h;have ih:=dB i l x.2 h.2;cases c with
  |st n=>cases h.1.1
  |un n=>cases h.1.1
  |m=>exact(h.1.2 rfl).elim|_=>
   simp only[NM,enc,Lv.K3,K3,cells,AF,ih];rfl
theorem AHE(c:C)(x:c.D):Ej (shC c) (enc c x).length=true:=by
 rw[Kh];cases c<;>rfl
theorem KE:∀(ks:List PK) (i:Nat) (fs:List Nat) (a:A ks) (S:St),oN ks=true->fs.map (fun n=>(R[n]?).map GF.x)=(fX ks).map some ->
 Lv.initK i (ks.map PK.md) (aVs ks a) (S.fg R)=some ((initK i fs ks a S).fg R)
 | [],i,fs,a,S,_,_=>rfl|k::ks,i,fs,a,S,hp,hf=>by
  obtain⟨a1,a2⟩:=a;cases k with
  |v c=>
   have hE:enc c a1=(cells c a1).map U.fg:=EC c a1;have ih:=KE ks (i+1) fs a2 (S.HX i (shC c) ((cells c a1).map (DP i))) hp hf;rw[Is,Lj,<-hE]at ih;exact ih
  |p c=>
   have hE:enc c a1=(cells c a1).map U.fg:=EC c a1;have ih:=KE ks (i+1) fs a2 (S.HX i .one [.vp (.old i) (cells c a1)]) hp hf;rw[Is]at ih;simp only[AF,A6,AN.fg]at ih;rw[<-hE]at ih;exact ih
  |b c=>
   have hE:enc c a1=(cells c a1).map U.fg:=EC c a1;have ih:=KE ks (i+1) fs a2 (let S1:=(S.HX i .one [.bp i 0]).KW i ((cells c a1).map (DP i));⟨S1.tm,S1.bx,i::S1.pin,S1.nv⟩) hp hf;have e:(let S1:=(S.HX i .one [.bp i 0]).KW i ((cells c a1).map (DP i));(⟨S1.tm,S1.bx,i::S1.pin,S1.nv⟩:St)).fg R={ S.fg R with tm:=Lv.put (S.fg R).tm i ⟨.one,[.bp i 0]⟩,bx:=Lv.put (S.fg R).bx i ((enc c a1).map (Lv.DP i)),pin:=i::(S.fg R).pin}:=by
    have h1:=Oe (R:=R) (S.HX i .one [.bp i 0]) i ((cells c a1).map (DP i));rw[Is,Lj,<-hE]at h1;have h2:=congrArg Lv.St.tm h1;have h3:=congrArg Lv.St.bx h1;simp only[St.fg]at h2 h3 ⊢;rw[h2,h3];rfl
   rw[e]at ih;exact ih
  |o c=>
   have hE:enc c a1=(cells c a1).map U.fg:=EC c a1;have ih:=KE ks (i+1) fs a2 (S.HX i (shC c) ((cells c a1).map HK)) hp hf;rw[Is,S5,<-hE]at ih;exact ih
  |m c=>
   have hE:enc c a1=(cells c a1).map U.fg:=EC c a1;have ih:=KE ks (i+1) fs a2 (let S1:=S.HX i (shC c) ((cells c a1).map HK);⟨S1.tm,S1.bx,i::S1.pin,S1.nv⟩) hp hf;have e:(let S1:=S.HX i (shC c) ((cells c a1).map HK);(⟨S1.tm,S1.bx,i::S1.pin,S1.nv⟩:St)).fg R={ S.fg R with tm:=Lv.put (S.fg R).tm i ⟨shC c,(enc c a1).map Lv.HK⟩,pin:=i::(S.fg R).pin}:=by
    have h1:=Is (R:=R) S i (shC c) ((cells c a1).map HK);rw[S5,<-hE]at h1;have h2:=congrArg Lv.St.tm h1;simp only[St.fg]at h2 ⊢;rw[h2];rfl
   rw[e]at ih;have hs:Ej (shC c) (enc c a1).length=true:=AHE c a1;show (if Ej (shC c) (enc c a1).length=true then _ else none)=_;rw[if_pos hs];exact ih
  |f x l=>
   simp only[oN,AD]at hp;cases fs with
   |nil=>simp[fX]at hf|cons n fs=>
    simp only[fX,AF,B0]at hf;have hx:xr R n=x:=by
     unfold xr;cases hr:R[n]? with
     |none=>rw[hr]at hf;simp at hf|some g=>rw[hr]at hf;simpa using hf.1
    have ih:=KE ks (i+1) fs a2 (S.HX i .one [.fn n (K3 i l a1)]) hp.2 hf.2;rw[Is]at ih;have hc:Lv.K3 i (NM l a1)=some ((K3 i l a1).map Cap.fg):=dB i l a1 hp.1;show (match Lv.K3 i (NM l a1) with|some ls=>Lv.initK (i+1) _ _ _|none=>none)=_;rw[hc];simp only[AF,A6,AN.fg,hx]at ih;exact ih
theorem Jj:∀{rs:List H9} {S:St} {K:List (Option Nat)->List AN->Option ρ} {r:ρ},JA rs S K=some r->∃ns ls,Lv.JA rs (S.fg R)=some (ns,ls.map (AN.fg R))/\K ns ls=some r
 | [],S,K,r,h=>⟨[],[],rfl,h⟩|.tmp t::rs,S,K,r,h=>by
  simp only[JA]at h;split at h
  .rename_i e he;split at h
   .rename_i hs;obtain⟨ns,ls,h1,h2⟩:=Jj h;refine⟨_,_,?_,h2⟩;have:=I9 (R:=R) he;simp only[YO.er]at this;simp only[Lv.JA,this,h1,En.fg,AZ,hs,if_true,C0];rfl
   .cases h
  .cases h
 |.cell t n::rs,S,K,r,h=>by
  simp only[JA]at h;split at h
  .rename_i id o he;obtain⟨ls',h1,h⟩:=Mc (R:=R) h;obtain⟨ns,ls,h2,h3⟩:=Jj h;refine⟨_,_,?_,h3⟩;have:=Dv (R:=R) he;simp only[YO.er,AN.fg]at this h1;simp only[Lv.JA,this,h1,h2,C0]
  .cases h
 |.bx _::rs,S,K,r,h=>by cases h
 |.vw _ _::rs,S,K,r,h=>by cases h
 |.un _ _::rs,S,K,r,h=>by cases h
theorem bt:∀{ls:List AN},KJ ls=true->Lv.KJ (ls.map (AN.fg R))=true
 | [],_=>rfl|l::ls,h=>by
  simp only[KJ,AD]at h;simp only[AF,Lv.KJ,AD];refine⟨?_,bt h.2⟩;have h1:=h.1
  grind[AN.fg,YG]
theorem AJG{rk:RK}{rs:List H9}{S:St}{K:St->List U->Option ρ}{r:ρ}(h:UH rk rs S K=some r):∃S' us,Lv.UH rs (S.fg R)=some (S'.fg R,rk.sh,us.map U.fg)/\K S' us=some r:=by
 unfold UH at h;split at h
 .rename_i k c t;split at h
  .rename_i id he;have h1:=Dv (R:=R) he;simp only[YO.er,AN.fg]at h1;split at h
   .rename_i ls hl;split at h
    .cases h
    .rename_i hp;split at h
     .rename_i hk;split at h
      .rename_i us hu;subst hk;refine⟨S,us,?_,h⟩;have hp':id∉(S.fg R).pin:=fun hh=>hp (mem_iff.2 hh)
       simp only[Lv.UH,h1,Lb,hl,Ab,KF,LJ hu];rw[if_neg hp'];rfl
      .cases h
     .cases h
   .cases h
  .cases h
 .rename_i k c t k';split at h
  .rename_i hk;subst hk;split at h
   .rename_i k'' c' xs he;have h1:=Dv (R:=R) he;simp only[YO.er,AN.fg]at h1;split at h
    .rename_i hk;subst hk;exact⟨S,_,by simp only[Lv.UH,h1,if_true];rfl,h⟩
    .cases h
   .rename_i q sub he;have h1:=Dv (R:=R) he;simp only[YO.er,AN.fg]at h1;split at h
    .rename_i x hx;refine⟨_,_,?_,h⟩;simp only[Lv.UH,h1,Ht,hx,Ab,AN.fg,TE,AF,A6,Ru];rfl
    .cases h
   .cases h
  .cases h
 .rename_i n c cs t n' r' rs;split at h
  .rename_i hn';subst hn';split at h
   .rename_i id o he;have he':=Dv (R:=R) he;obtain⟨ls',h0,h⟩:=Mc (R:=R) h;simp only[YO.er,AN.fg]at he' h0;split at h
    .rename_i hp;obtain⟨ns,ls,h1,h⟩:=Jj (R:=R) h;split at h
     .rename_i hn;split at h
      .rename_i S' us hu;obtain⟨h2,_⟩:=Ir (R:=R) hu;refine⟨S',_,?_,h⟩;simp only[Lv.UH,he',h0];rw[if_pos (bt hp),h1];dsimp only;rw[h2,hn];simp only[C0,E9];rfl
      .cases h
     .cases h
    .cases h
   .cases h
  .cases h
 .rename_i cs;obtain⟨ns,ls,h1,h⟩:=Jj (R:=R) h;split at h
  .rename_i hn;split at h
   .rename_i S' us hu;obtain⟨h2,_⟩:=Ir (R:=R) hu;refine⟨S',us,?_,h⟩;have:Lv.UH rs (S.fg R)=match Lv.JA rs (S.fg R) with
     |some (ns,ls)=>(match Lv.Cx (S.fg R) ls with|some (S',cs)=>some (S',pH ns,cs)|none=>none)
     |none=>none:=by
     rcases rs with _|⟨a,_|⟨b,rs⟩⟩
     .rfl
     .cases a<;>first|rfl|(simp[Lv.JA]at h1)
     .cases a<;>first|rfl|(simp[Lv.JA]at h1)
    rw[this,h1];dsimp only;rw[h2,hn];rfl
   .cases h
  .cases h
 .cases h
theorem AK5{l:AN}{u:U}(h:owT l=some u):Lv.owT (AN.fg R l)=some u.fg:=by
 cases l with
 |ow x=>cases h;rfl
 |t x=>
  grind[owT,AN.fg,Lv.owT,YG]
 |_=>cases h
theorem zx:∀{ls:List AN} {us:List U},UG ls=some us->Lv.UG (ls.map (AN.fg R))=some (us.map U.fg)/\us.length=ls.length
 | [],us,h=>by cases h;exact⟨rfl,rfl⟩
 |l::ls,us,h=>by
  simp only[UG]at h;split at h
  .rename_i x xs h1 h2;cases h;obtain⟨h3,h4⟩:=zx h2;simp only[AF,Lv.UG,AK5 h1,h3,AM,h4];exact⟨trivial,trivial⟩
  .cases h
theorem Un{k:Nat}:∀{ls:List AN} {us:List U},EJ k ls=some us->us.length=ls.length
 | [],us,h=>by cases h;rfl
 |l::ls,us,h=>by
  simp only[EJ]at h;split at h
  .rename_i x xs h1 h2;cases h;simp only[AM,Un h2]
  .cases h
def chunks:List C->List U->List (List U)| [],_=>[]|c::cs,us=>us.take c.size::chunks cs (us.drop c.size)
theorem Uv:∀(cs:List C) (us:List U),(chunks cs us).length=cs.length| [],_=>rfl|c::cs,us=>by simp only[chunks,AM,Uv cs]
theorem Th:∀(cs:List C) (us:List U),us.length=O5 cs->(chunks cs us).flatten=us
 | [],us,h=>by cases us with|nil=>rfl|cons u us=>cases h
 |c::cs,us,h=>by
  simp only[O5]at h;simp only[chunks,List.flatten_cons];rw[Th cs _ (by rw[A9];omega),GL]
theorem Uu:∀(cs ds:List C) (us os:List U),us.length=O5 cs->chunks (cs++ds) (us++os)=chunks cs us++chunks ds os
 | [],ds,us,os,h=>by cases us with|nil=>rfl|cons u us=>cases h
 |c::cs,ds,us,os,h=>by
  simp only[O5]at h;simp only[List.cons_append,chunks];rw[List.take_append_of_le_length (by omega),List.drop_append_of_le_length (by omega),Uu cs ds _ os (by rw[A9];omega)]
theorem YZ:∀{cs:List C} {us:List U} {x:Tu cs},ofT cs us=some x->MP cs x=(chunks cs us).map (List.map U.fg)
 | [],us,x,h=>rfl| [c],us,x,h=>by
  have h':ofC c us=some x:=h;show [enc c x]=_;rw[Gi h'];simp only[chunks,AF,A6];rw[List.take_of_length_le (by rw[AIw h'];exact AT _)]
 |c::c'::cs,us,x,h=>by
  simp only[ofT]at h;split at h
  .rename_i a b h1 h2;cases h;show enc c a::MP (c'::cs) b=_;rw[Gi h1,YZ h2];rfl
  .cases h
theorem Ic{S:St}:∀{ks:List PK} {i:Nat} {os:List U},D3 i ks S=some os->Lv.D3 i (ks.map PK.md) (S.fg R)=some ((chunks (Ia ks) os).map (List.map U.fg))/\os.length=O5 (Ia ks)
 | [],i,os,h=>by cases h;exact⟨rfl,rfl⟩
 |.b c::ks,i,os,h=>by
  simp only[D3]at h;split at h
  .rename_i ls os' h1 h2;obtain⟨h3,h4⟩:=Ic (ks:=ks) h2;split at h
   .rename_i hc;split at h
    .rename_i us hu;cases h;have hl:us.length=c.size:=by rw[Un hu,hc.2]
     have hp:i∈(S.fg R).pin:=mem_iff.1 hc.1;refine⟨?_,by simp only[AO,Ia,O5,hl,h4]⟩;simp only[AF,PK.md,Lv.D3,Lb,h1,Ab,h3,Ia,chunks];rw[if_pos hp,LJ hu,CK hl,B7 hl];rfl
    .cases h
   .cases h
  .cases h
 |.m c::ks,i,os,h=>by
  simp only[D3]at h;split at h
  .rename_i e os' h1 h2;obtain⟨h3,h4⟩:=Ic (ks:=ks) h2;split at h
   .rename_i hc;split at h
    .rename_i us hu;cases h;obtain⟨h5,h6⟩:=zx (R:=R) hu;have hl:us.length=c.size:=by rw[h6,hc.2.2]
     have hp:i∈(S.fg R).pin:=mem_iff.1 hc.1;refine⟨?_,by simp only[AO,Ia,O5,hl,h4]⟩;simp only[AF,PK.md,Lv.D3,RB,h1,Ab,h3,Ia,chunks,Ent.fg,AZ];rw[if_pos ⟨hp,hc.2.1⟩,h5,CK hl,B7 hl];rfl
    .cases h
   .cases h
  .cases h
 |.v c::ks,i,os,h=>Ic (ks:=ks) h|.p c::ks,i,os,h=>Ic (ks:=ks) h|.o c::ks,i,os,h=>Ic (ks:=ks) h|.f x l::ks,i,os,h=>Ic (ks:=ks) h
theorem nM:∀(cs:List C) (x:Tu cs),(MP cs x).map List.length=cs.map C.size
 | [],x=>rfl| [c],x=>congrArg (fun n=>[n]) (Kh c x)|c::c'::cs,x=>by
  obtain⟨a,b⟩:=x;show (enc c a).length::(MP (c'::cs) b).map List.length=_;rw[nM (c'::cs) b,Kh];rfl
theorem Ib:∀(ks:List PK) (a:A ks) (os:List (List T)),os.map List.length=(Ia ks).map C.size->Lv.Ey (ks.map PK.md) (aVs ks a) os=true
 | [],a,[],h=>rfl| [],a,o::os,h=>by cases h
 |.b c::ks,a,[],h=>by cases h
 |.b c::ks,a,o::os,h=>by
  obtain⟨a1,a2⟩:=a;simp only[Ia,AF,B0]at h;have hl:(enc c a1).length=c.size:=Kh c a1;show (o.length==(enc c a1).length&&Lv.Ey (ks.map PK.md) (aVs ks a2) os)=true;rw[hl,h.1,Ib ks a2 os h.2];simp
 |.m c::ks,a,[],h=>by cases h
 |.m c::ks,a,o::os,h=>by
  simp only[Ia,AF,B0]at h;exact Ib ks a.2 os h.2
 |.v c::ks,a,os,h=>Ib ks a.2 os h|.p c::ks,a,os,h=>Ib ks a.2 os h|.o c::ks,a,os,h=>Ib ks a.2 os h|.f x l::ks,a,os,h=>Ib ks a.2 os h
end
def YF.er(f:YF):Ba:=.mk (f.ps.map PK.md) f.rs f.body.er
theorem qS{f:YF}{S:St}{r:Tu (f.rk.cs++Ia f.ps)}(h:fin f.ps f.rk f.rs S=some r) :
 Lv.fin (f.ps.map PK.md) f.rs (S.fg f.R) f.rk.sh ((MP _ r).take f.rk.cs.length).flatten ((MP _ r).drop f.rk.cs.length):=by
 unfold fin at h;obtain⟨S',us,h1,h⟩:=AJG (R:=f.R) h;split at h
 .rename_i os ho;split at h
  .rename_i hl;obtain⟨h2,h3⟩:=Ic (R:=f.R) ho;have h4:=YZ h;rw[Uu _ _ _ _ hl,C0]at h4;have hlen:((chunks f.rk.cs us).map (List.map U.fg)).length=f.rk.cs.length:=by rw[AZ,Uv]
   rw[h4,CK hlen,B7 hlen];refine⟨S'.fg f.R,?_,h2⟩;rw[h1,<-He,Th _ _ hl]
  .cases h
 .cases h
theorem YF.sound{f:YF}(hp:oN f.ps=true)(hf:f.fs.map (fun n=>(f.R[n]?).map GF.x)=(fX f.ps).map some){a:A f.ps}{r:Tu (f.rk.cs++Ia f.ps)}(h:f.run a=some r) :
 HE f.er (aVs f.ps a) f.rk.sh ((MP _ r).take f.rk.cs.length).flatten ((MP _ r).drop f.rk.cs.length):=by
 unfold YF.run at h;rw[force_eq]at h;refine .intro ⟨_,KE (R:=f.R) f.ps 0 f.fs a ⟨[],[],[],0⟩ hp hf,?_,?_⟩
 .grind[DN,qS]
 grind[Ib,nM,Ia,List.map_drop,List.drop_left',List.length_map]
def YF.gf(f:YF)(hp:oN f.ps=true)(hf:f.fs.map (fun n=>(f.R[n]?).map GF.x)=(fX f.ps).map some)(d:A f.ps->Option (Tu (f.rk.cs++Ia f.ps)))(hd:∀a,f.run a=d a):GF:=
 ⟨f.er,f.ps,f.rk,d,rfl,fun a r h=>YF.sound hp hf ((hd a).trans h)⟩
end Y
end Lv
namespace Lv
open Y
open Go
def AA7(c:C)(xs:List c.D)(i:Int)(ys:List c.D):Option (List c.D):=
 if 0<=i/\i.toNat<=xs.length/\ys≠[]/\xs.length+ys.length<=lim then some (xs.take i.toNat++ys++xs.drop i.toNat) else none
theorem AE3{c:C}(hf:Tr c=true)(xs:List c.D)(i:Int)(ys:List c.D)(r:List c.D)(h:AA7 c xs i ys=some r) :
 HE (.K9 (2*c.size) [.o,.v,.v]) [.o .one (enc (.l c) xs),.v .one (enc .i i),.v .one (enc (.l c) ys)] .one (enc (.l c) r) []:=by
 unfold AA7 at h;split at h
 .rename_i hc;cases h;intro Rn hRn;refine hRn _ _ _ _ _ ?_;show Tf (2*c.size) _ _ _ _;unfold Tf;refine⟨by omega,?_⟩;rw[if_pos (by omega)];refine⟨_,xs.map (enc c),_,ys.map (enc c),i,rfl,rfl,?_,rfl,?_,Hl hf _,Hl hf _,hc.1,by simpa using hc.2.1,by simpa using hc.2.2.1,by simpa using hc.2.2.2,rfl,?_,rfl⟩
  .simp[eOf]
  .simp[eOf]
  .show [T.sl c.size ((xs.take i.toNat++ys++xs.drop i.toNat).map (enc c))]=_;simp[CQ,CA]
 .cases h
def AMd(c:C)(hf:Tr c=true):GF:=
 ⟨.K9 (2*c.size) [.o,.v,.v],[.o (.l c),.v .i,.v (.l c)],.ret [.l c],fun a=>AA7 c a.1 a.2.1 a.2.2.1,rfl,fun a r h=>AE3 hf _ _ _ r h⟩
structure il(ps:List PK)(rk:RK) where
 x:Ba
 d:A ps->Option (Tu (rk.cs++Ia ps))
 ms:Dc x=ps.map PK.md
 ok:∀a r,d a=some r->HE x (aVs ps a) rk.sh ((MP _ r).take rk.cs.length).flatten ((MP _ r).drop rk.cs.length)
def il.gf{ps:List PK}{rk:RK}(r:il ps rk):GF:=⟨r.x,ps,rk,r.d,r.ms,r.ok⟩
def il.of(g:GF):il g.ps g.rk:=⟨g.x,g.d,g.ms,g.ok⟩
def il.nil(ps:List PK)(rk:RK):il ps rk:=⟨.K9 1 (ps.map PK.md),fun _=>none,rfl,fun _ _ h=>by cases h⟩
end Lv
namespace Lv
open Go (IntKind BinOp UnOp)
section
variable{a b c d e f g h:Type}
def BY(k:a->h)(x:a×b):h:=k x.1
def BF(k:a->b->h)(x:a×b×c):h:=k x.1 x.2.1
def HY(k:a->b->c->h)(x:a×b×c×d):h:=k x.1 x.2.1 x.2.2.1
def P4(k:a->b->c->d->h)(x:a×b×c×d×e):h:=k x.1 x.2.1 x.2.2.1 x.2.2.2.1
def AHf(k:a->b->c->d->e->h)(x:a×b×c×d×e×f):h:=k x.1 x.2.1 x.2.2.1 x.2.2.2.1 x.2.2.2.2.1
end
namespace Y
def YF.GD(f:YF)(d:A f.ps->Option (Tu (f.rk.cs++Ia f.ps)))(hd:∀a,f.run a=d a:=by intro a;kernel_rfl)(hp:oN f.ps=true:=by rfl)(hf:f.fs.map (fun n=>(f.R[n]?).map GF.x)=(fX f.ps).map some:=by rfl):GF:=f.gf hp hf d hd
end Y
def AHg{γ:Type}(x y:B2)(X:Option γ):Option γ:=eqv x.Data y.Data (eqv x.Safe y.Safe X)
theorem UD{γ:Type}(x:B2)(X:Option γ):AHg x x X=X:=by unfold AHg;simp only[C7]
def ib{γ:Type}(x y:Ck)(X:Option γ):Option γ:=eqv x.N1 y.N1 (eqv x.at_ y.at_ (eqv x.jG y.jG X))
theorem ic{γ:Type}(x:Ck)(X:Option γ):ib x x X=X:=by unfold ib;simp only[C7]
def iW{γ:Type}(x y:Ac)(X:Option γ):Option γ:=eqv x.Level y.Level (eqv x.A4 y.A4 (eqv x.Id y.Id (eqv x.BW y.BW X)))
theorem iX{γ:Type}(x:Ac)(X:Option γ):iW x x X=X:=by unfold iW;simp only[C7]
def AJq{γ:Type}(x y:Cb)(X:Option γ):Option γ:=eqv x.Kind y.Kind (eqv x.Id y.Id (eqv x.Bf y.Bf (eqv x.Ci y.Ci (eqv x.BW y.BW (eqv x.DG y.DG X)))))
theorem ZR{γ:Type}(x:Cb)(X:Option γ):AJq x x X=X:=by unfold AJq;simp only[C7]
def iZ{γ:Type}(x y:B5)(X:Option γ):Option γ:=eqv x.Log.Data y.Log.Data (eqv x.Log.Safe y.Log.Safe (eqv x.Fw.Data y.Fw.Data (eqv x.Fw.Safe y.Fw.Safe (eqv x.Odd.Data y.Odd.Data (eqv x.Odd.Safe y.Odd.Safe X)))))
theorem R0{γ:Type}(x:B5)(X:Option γ):iZ x x X=X:=by unfold iZ;simp only[C7]
def Bt{γ:Type}(x y:AW)(X:Option γ):Option γ:=eqv x.Ae y.Ae (eqv x.CJ y.CJ (eqv x.Room y.Room (eqv x.BW y.BW (eqv x.Bn y.Bn (eqv x.Bi y.Bi (eqv x.Rest y.Rest (eqv x.CI y.CI (eqv x.Ch y.Ch X))))))))
theorem Mu{γ:Type}(x:AW)(X:Option γ):Bt x x X=X:=by unfold Bt;simp only[C7]
def iY{γ:Type}(x y:AH)(X:Option γ):Option γ:=eqv x.AR.Ae y.AR.Ae (eqv x.AR.CJ y.AR.CJ (eqv x.AR.Room y.AR.Room (eqv x.AR.BW y.AR.BW (eqv x.AR.Bn y.AR.Bn (eqv x.AR.Bi y.AR.Bi (eqv x.AR.Rest y.AR.Rest (eqv x.AR.CI y.AR.CI (eqv x.AR.Ch y.AR.Ch (eqv x.Now y.Now (eqv x.A4 y.A4 (eqv x.AK y.AK (eqv x.Ap y.Ap (eqv x.BO y.BO (eqv x.BP y.BP X))))))))))))))
theorem Rz{γ:Type}(x:AH)(X:Option γ):iY x x X=X:=by unfold iY;simp only[C7]
def pc{γ:Type}(x y:Ay)(X:Option γ):Option γ:=eqv x.Av.AR.Ae y.Av.AR.Ae (eqv x.Av.AR.CJ y.Av.AR.CJ (eqv x.Av.AR.Room y.Av.AR.Room (eqv x.Av.AR.BW y.Av.AR.BW (eqv x.Av.AR.Bn y.Av.AR.Bn (eqv x.Av.AR.Bi y.Av.AR.Bi (eqv x.Av.AR.Rest y.Av.AR.Rest (eqv x.Av.AR.CI y.Av.AR.CI (eqv x.Av.AR.Ch y.Av.AR.Ch (eqv x.Av.Now y.Av.Now (eqv x.Av.A4 y.Av.A4 (eqv x.Av.AK y.Av.AK (eqv x.Av.Ap y.Av.Ap (eqv x.Av.BO y.Av.BO (eqv x.Av.BP y.Av.BP (eqv x.Bu.Log.Data y.Bu.Log.Data (eqv x.Bu.Log.Safe y.Bu.Log.Safe (eqv x.Bu.Fw.Data y.Bu.Fw.Data (eqv x.Bu.Fw.Safe y.Bu.Fw.Safe (eqv x.Bu.Odd.Data y.Bu.Odd.Data (eqv x.Bu.Odd.Safe y.Bu.Odd.Safe (eqv x.Seq y.Seq (eqv x.Laid y.Laid X))))))))))))))))))))))
theorem O8{γ:Type}(x:Ay)(X:Option γ):pc x x X=X:=by unfold pc;simp only[C7]
def DT:List U:=[.nil,.int .i64 0,.int .i64 0,.int .i64 0,.int .i64 0,.int .i64 0,.int .i64 0,.int .i64 0,.int .i64 0,.int .i64 0,.int .i64 0,.nil,.nil,.nil,.nil]
def AMs:List U:=[.int .i64 0,.int .i64 0,.int .i64 0,.int .i64 0,.int .i64 0,.int .i64 0,.int .i64 0,.int .i64 0,.int .i64 0,.int .i64 0]
def AMr:List U:=[.int .i64 0,.int .i64 0,.int .i64 0,.int .i64 0,.int .i64 0,.nil,.nil]
def ev2{α0 α1 γ:Type}(a0:α0)(a1:α1)(X:Option γ):Option γ:=eqv a0 a0 (eqv a1 a1 X)
theorem PL{α0 α1 γ:Type}(a0:α0)(a1:α1)(X:Option γ):ev2 a0 a1 X=X:=by unfold ev2;simp only[C7]
def ev3{α0 α1 α2 γ:Type}(a0:α0)(a1:α1)(a2:α2)(X:Option γ):Option γ:=eqv a0 a0 (eqv a1 a1 (eqv a2 a2 X))
theorem PM{α0 α1 α2 γ:Type}(a0:α0)(a1:α1)(a2:α2)(X:Option γ):ev3 a0 a1 a2 X=X:=by unfold ev3;simp only[C7]
def ev4{α0 α1 α2 α3 γ:Type}(a0:α0)(a1:α1)(a2:α2)(a3:α3)(X:Option γ):Option γ:=eqv a0 a0 (eqv a1 a1 (eqv a2 a2 (eqv a3 a3 X)))
theorem PN{α0 α1 α2 α3 γ:Type}(a0:α0)(a1:α1)(a2:α2)(a3:α3)(X:Option γ):ev4 a0 a1 a2 a3 X=X:=by unfold ev4;simp only[C7]
def ev5{α0 α1 α2 α3 α4 γ:Type}(a0:α0)(a1:α1)(a2:α2)(a3:α3)(a4:α4)(X:Option γ):Option γ:=eqv a0 a0 (eqv a1 a1 (eqv a2 a2 (eqv a3 a3 (eqv a4 a4 X))))
theorem PO{α0 α1 α2 α3 α4 γ:Type}(a0:α0)(a1:α1)(a2:α2)(a3:α3)(a4:α4)(X:Option γ):ev5 a0 a1 a2 a3 a4 X=X:=by unfold ev5;simp only[C7]
def ev6{α0 α1 α2 α3 α4 α5 γ:Type}(a0:α0)(a1:α1)(a2:α2)(a3:α3)(a4:α4)(a5:α5)(X:Option γ):Option γ:=eqv a0 a0 (eqv a1 a1 (eqv a2 a2 (eqv a3 a3 (eqv a4 a4 (eqv a5 a5 X)))))
theorem No{α0 α1 α2 α3 α4 α5 γ:Type}(a0:α0)(a1:α1)(a2:α2)(a3:α3)(a4:α4)(a5:α5)(X:Option γ):ev6 a0 a1 a2 a3 a4 a5 X=X:=by unfold ev6;simp only[C7]
def ev7{α0 α1 α2 α3 α4 α5 α6 γ:Type}(a0:α0)(a1:α1)(a2:α2)(a3:α3)(a4:α4)(a5:α5)(a6:α6)(X:Option γ):Option γ:=eqv a0 a0 (eqv a1 a1 (eqv a2 a2 (eqv a3 a3 (eqv a4 a4 (eqv a5 a5 (eqv a6 a6 X))))))
theorem PQ{α0 α1 α2 α3 α4 α5 α6 γ:Type}(a0:α0)(a1:α1)(a2:α2)(a3:α3)(a4:α4)(a5:α5)(a6:α6)(X:Option γ):ev7 a0 a1 a2 a3 a4 a5 a6 X=X:=by unfold ev7;simp only[C7]
def ev8{α0 α1 α2 α3 α4 α5 α6 α7 γ:Type}(a0:α0)(a1:α1)(a2:α2)(a3:α3)(a4:α4)(a5:α5)(a6:α6)(a7:α7)(X:Option γ):Option γ:=eqv a0 a0 (eqv a1 a1 (eqv a2 a2 (eqv a3 a3 (eqv a4 a4 (eqv a5 a5 (eqv a6 a6 (eqv a7 a7 X)))))))
theorem PR{α0 α1 α2 α3 α4 α5 α6 α7 γ:Type}(a0:α0)(a1:α1)(a2:α2)(a3:α3)(a4:α4)(a5:α5)(a6:α6)(a7:α7)(X:Option γ):ev8 a0 a1 a2 a3 a4 a5 a6 a7 X=X:=by unfold ev8;simp only[C7]
def orE{ρ:Type}(a b:Option ρ):Option ρ:=match a with|some r=>some r|none=>b
def GF.orE(g:GF)(d d2:A g.ps->Option (Tu (g.rk.cs++Ia g.ps)))(hd:∀a,d a=Lv.orE (g.d a) (d2 a))
 (hk:∀a r,d2 a=some r->HE g.x (aVs g.ps a) g.rk.sh ((MP _ r).take g.rk.cs.length).flatten ((MP _ r).drop g.rk.cs.length)):GF:=
 ⟨g.x,g.ps,g.rk,d,g.ms,fun a r h=>by
  rw[hd]at h;unfold Lv.orE at h;split at h
  .rename_i r' h';cases h;exact g.ok a _ h'
  .exact hk a r h⟩
namespace Y
section
variable{R:List GF}
def qn(l:List (YOp R)):List (Option (Nat×Bool)×YOp R):=l.map fun o=>(none,o)
def qf(g:Nat)(l:List (YOp R)):List (Option (Nat×Bool)×YOp R):=l.map fun o=>(some (g,false),o)
def qt(g:Nat)(l:List (YOp R)):List (Option (Nat×Bool)×YOp R):=l.map fun o=>(some (g,true),o)
def qr(l:List (List (Option (Nat×Bool)×YOp R)))(EM:List Nat):E5 R:=.region l.flatten EM
def q1(l:List (YOp R))(EM:List Nat):E5 R:=.region (qn l) EM
def qdl(r:BS R):Nat->List (Option (Nat×Bool)×YOp R)->BS R|_,[]=>r|i,o::l=>.op i o.1 [] o.2 (qdl r (i+1) l)
def qd(i:Nat)(l:List (List (Option (Nat×Bool)×YOp R)))(r:BS R):BS R:=qdl r i l.flatten
def qm(d s:Nat):YOp R:=.mv d (.tmp s)
def qa(d s:Nat):YOp R:=.as d (.tmp s)
def qo(d o s:Nat):YOp R:=.fa d o (.tmp s)
def ql(d s:Nat):YOp R:=.ld d none (.tmp s)
def qL(d n s:Nat):YOp R:=.ld d (some n) (.tmp s)
def qb(d:Nat)(o:BinOp)(x y:Nat):YOp R:=.bin d .num o (.tmp x) (.tmp y)
def qi(d:Nat)(o:BinOp)(x:Nat)(n:Int):YOp R:=.bin d .num o (.tmp x) (.k (.int .i64 n))
def qx(d s:Nat):YOp R:=.un d .not (.tmp s)
def qp(d c x:Nat):YOp R:=.pick d (.tmp c) (.k (.bool true)) (.tmp x)
def qq(d c x:Nat):YOp R:=.pick d (.tmp c) (.tmp x) (.k (.bool false))
def qc(d:Nat)(g:GF)(hf:([]:List Nat).map (fun n=>(R[n]?).map GF.x)=(fX g.ps).map some)(l:List Nat):YOp R:=.call d g [] hf (l.map .tmp)
def qz(d s:Nat):YOp R:=.len d (.tmp s)
def qe(d:Nat)(c:C)(x i:Nat):YOp R:=.ia d c (.tmp x) (.tmp i)
def qk(d:Nat)(n:Int):YOp R:=.mv d (.k (.int .i64 n))
def qK(d:Nat)(n:Int):YOp R:=.as d (.k (.int .i64 n))
def qB(d:Nat)(b:Bool):YOp R:=.as d (.k (.bool b))
def qw(n x v:Nat):YOp R:=.st n (.tmp x) (.tmp v)
def qu(d s:Nat):YOp R:=.box d (.tmp s)
def qj(n:Int):YO:=.k (.int .i64 n)
instance (n:Nat):OfNat YO n:=⟨.tmp n⟩
def kpF:Nat->Nat->Nat->List Nat
 |0,_,_=>[]|f+1,i,n=>match Nat.beq n 0 with|true=>[]|false=>match Nat.testBit n 0 with|true=>i::kpF f (i+1) (n / 2)|false=>kpF f (i+1) (n / 2)
def wU:Nat->List (Nat->Nat->YOp R)->List (YOp R)|_,[]=>[]|0,f::l=>f 0 0::wU 1 l|k+1,f::l=>f (k+1) k::wU (k+2) l
def wn(d:Nat)(l:List (Nat->Nat->YOp R)):List (Option (Nat×Bool)×YOp R):=qn (wU d l)
def wf(g d:Nat)(l:List (Nat->Nat->YOp R)):List (Option (Nat×Bool)×YOp R):=qf g (wU d l)
def wt(g d:Nat)(l:List (Nat->Nat->YOp R)):List (Option (Nat×Bool)×YOp R):=qt g (wU d l)
def w1(d:Nat)(l:List (Nat->Nat->YOp R))(EM:List Nat):E5 R:=q1 (wU d l) EM
def sw(d:Nat)(l:List (Nat->Nat->YOp R))(EM:List Nat)(b:E5 R):E5 R:=.seq (q1 (wU d l) EM) b
def sq(l:List (YOp R))(EM:List Nat)(b:E5 R):E5 R:=.seq (q1 l EM) b
def sr(l:List (List (Option (Nat×Bool)×YOp R)))(EM:List Nat)(b:E5 R):E5 R:=.seq (qr l EM) b
def wm(s d _p:Nat):YOp R:=.mv d (.tmp s)
def wM(d p:Nat):YOp R:=.mv d (.tmp p)
def wo(o s d _p:Nat):YOp R:=.fa d o (.tmp s)
def wO(o d p:Nat):YOp R:=.fa d o (.tmp p)
def wl(s d _p:Nat):YOp R:=.ld d none (.tmp s)
def wL(d p:Nat):YOp R:=.ld d none (.tmp p)
def wk(n s d _p:Nat):YOp R:=.ld d (some n) (.tmp s)
def wK(n d p:Nat):YOp R:=.ld d (some n) (.tmp p)
def wz(s d _p:Nat):YOp R:=.len d (.tmp s)
def wZ(d p:Nat):YOp R:=.len d (.tmp p)
def wx(s d _p:Nat):YOp R:=.un d .not (.tmp s)
def wX(d p:Nat):YOp R:=.un d .not (.tmp p)
def wb(o:BinOp)(x y d _p:Nat):YOp R:=.bin d .num o (.tmp x) (.tmp y)
def wB(o:BinOp)(x d p:Nat):YOp R:=.bin d .num o (.tmp x) (.tmp p)
def wi(o:BinOp)(x:Nat)(n:Int)(d _p:Nat):YOp R:=.bin d .num o (.tmp x) (.k (.int .i64 n))
def wI(o:BinOp)(n:Int)(d p:Nat):YOp R:=.bin d .num o (.tmp p) (.k (.int .i64 n))
def wr(c x d _p:Nat):YOp R:=.pick d (.tmp c) (.k (.bool true)) (.tmp x)
def wR(c d p:Nat):YOp R:=.pick d (.tmp c) (.k (.bool true)) (.tmp p)
def wq(c x d _p:Nat):YOp R:=.pick d (.tmp c) (.tmp x) (.k (.bool false))
def wQ(c d p:Nat):YOp R:=.pick d (.tmp c) (.tmp p) (.k (.bool false))
def we(c:C)(x i d _p:Nat):YOp R:=.ia d c (.tmp x) (.tmp i)
def wE(c:C)(x d p:Nat):YOp R:=.ia d c (.tmp x) (.tmp p)
def wc(g:GF)(hf:([]:List Nat).map (fun n=>(R[n]?).map GF.x)=(fX g.ps).map some)(l:List YO)(d _p:Nat):YOp R:=.call d g [] hf l
def wY(g:GF)(hf:([]:List Nat).map (fun n=>(R[n]?).map GF.x)=(fX g.ps).map some)(d p:Nat):YOp R:=.call d g [] hf [.tmp p]
def wj(n:Int)(d _p:Nat):YOp R:=.mv d (.k (.int .i64 n))
def wh(f:Nat->YOp R)(d _p:Nat):YOp R:=f d
def Kp(n:Nat):List Nat:=kpF 300 0 n
def cv(n:Nat)(c:C):Bool×Nat×Sh×List AL:=(false,n,.one,[.val c none])
def ca(n:Nat)(c:C):Bool×Nat×Sh×List AL:=(false,n,.agg,[.val c none])
def cx(n:Nat)(c:C):Bool×Nat×Sh×List AL:=(true,n,.one,[.val c none])
def cn(c:Nat)(ke:List Nat)(t:E5 R):E5 R:=.cond c [] ke t .skip
def ce(c:Nat)(kt ke:List Nat)(id:Nat):E5 R:=.cond c kt ke .skip (.exit id)
def bl(id:Nat)(c:Cut)(b:E5 R):E5 R:=.block id (.loop c b)
end
end Y
end Lv
namespace Lv
open Go
section
variable{A:Nat->Nat->List Md->Prop}{P:Program}
def fnd(n:Nat)(ms:List Md):List (Nat×Ba)->Option Ba
 | []=>none|p::r=>match Nat.beq p.1 n&&decide (Dc p.2=ms) with|true=>some p.2|false=>fnd n ms r
theorem dV {n ms x}:∀{r:List (Nat×Ba)},fnd n ms r=some x->(n,x)∈r
 | [],h=>by cases h
 |(k,y)::r,h=>by
  unfold fnd at h;split at h
  .rename_i hb;cases h;rw[AD]at hb;have he:k=n:=Nat.eq_of_beq_eq_true hb.1;subst he;exact BZ
  .exact Au _ (dV h)
theorem Mt.at{r:List (Nat×Ba)} {n x} (h:∀p∈r,Mt A P p.1 p.2) (e:fnd n (Dc x) r=some x):Mt A P n x:=h _ (dV e)
def caO(P:Program)(p:Nat×Ba):List (Nat×Ba):=match P.funcs[p.1]? with|some fn=>jN fn p.2|none=>[]
def okO(P:Program)(p:Nat×Ba):Bool:=match P.funcs[p.1]? with|some fn=>AFX P fn p.2|none=>false
def okM(P:Program):List (Nat×Ba)->Bool| []=>true|p::l=>okO P p&&okM P l
def caM(P:Program):List (Nat×Ba)->List (List (Nat×Ba))| []=>[]|p::l=>caO P p::caM P l
def ex1(r:List (Nat×Ba))(q:Nat×Ba):Nat×Ba:=match fnd q.1 (Dc q.2) r with|some x=>(q.1,x)|none=>(q.1+1,q.2)
def exM(P:Program):List (Nat×Ba)->List (Nat×Ba)->List (List (Nat×Ba))| [],_=>[]|p::l,r=>(caO P p).map (ex1 r)::exM P l (p::r)
theorem zp{α:Type}{f:α->α}:∀{l:List α},l=l.map f->∀x∈l,x=f x
 |a::l,h,x,hx=>by
  injection h with h1 h2;rcases Af.1 hx with rfl|hx
  .exact h1
  .exact zp h2 x hx
theorem Mt.s:∀{l r:List (Nat×Ba)},(∀p∈r,Mt A P p.1 p.2)->okM P l=true->caM P l=exM P l r->∀p∈l.reverseAux r,Mt A P p.1 p.2
 | [],_,h,_,_=>h|p::l,r,h,ho,hc=>by
  unfold okM at ho;unfold caM exM at hc;rw[AD]at ho;obtain⟨h1,h3⟩:=ho;injection hc with hc1 hc2;refine Mt.s (l:=l) (r:=p::r) (fun q hq=>?_) h3 hc2;rcases Af.1 hq with rfl|hq
  .unfold okO at h1;unfold caO at hc1;cases hf:P.funcs[q.1]? with
   |none=>simp[hf]at h1|some fn=>
    simp only[hf]at h1 hc1;refine Mt.by hf h1 rfl fun t ht=>?_
    have e:=zp hc1 t ht;unfold ex1 at e;cases hx:fnd t.1 (Dc t.2) r with
    |none=>
     rw[hx]at e;have:=congrArg Prod.fst e;simp at this
    |some x=>
     rw[hx]at e;rw[e];exact h _ (dV hx)
  .exact h q hq
def lX(l:List (Nat×GF)):List (Nat×Ba):=l.map fun p=>(p.1,p.2.x)
end
end Lv
