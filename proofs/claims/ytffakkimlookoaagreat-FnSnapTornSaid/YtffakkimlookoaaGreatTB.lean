/-
  The typed light machine is right, fifth part: what comes back from calls.
-/
import Derived.Test.YtffakkimlookoaaGreatTA
set_option linter.unusedVariables false
set_option linter.unusedSimpArgs false
namespace Lv
open Go (IntKind BinOp UnOp)
theorem lF{γ:Type}{b:Bool}{x y:Option γ}{r:γ}(h:br b x y=some r):(b=true/\x=some r)\/(b=false/\y=some r):=by
 rw [xA] at h;cases b with
 |true=>exact .inl ⟨rfl,h⟩
 |false=>exact .inr ⟨rfl,h⟩
theorem Gw{γ:Type}{p:Prop} [Decidable p] {x:Option γ} {r:γ} (h:gd p x=some r):p/\x=some r:=by
 rw [ra] at h;split at h
 .rename_i hp;exact⟨hp,h⟩
 .cases h
theorem Oh{α γ:Type}{o:Option α}{f:α->Option γ}{r:γ}(h:bd o f=some r):∃a,o=some a/\f a=some r:=ob (ir o f▸h)
theorem QB(X:List (List T))(i j:Nat)(o:T)(k:Nat):(Dn X i j o)[k]?=if k=i then (X[i]?).map (fun row=>row.set j o) else X[k]?:=by
 unfold Dn;rw [List.getElem?_set];by_cases h:i=k
 .subst h;simp only [if_true];split
  .rename_i hl;simp [List.getD_eq_getElem?_getD,List.getElem?_eq_getElem hl]
  .rename_i hl;rw [List.getElem?_eq_none (by omega)];rfl
 .rw [if_neg h,if_neg (fun h'=>h h'.symm)]
theorem pS(X:List (List T))(i j i2 j2:Nat)(o t:T)(h:j2≠j):Dn (Dn X i2 j2 t) i j o=Dn (Dn X i j o) i2 j2 t:=by
 apply List.ext_getElem?;intro k;simp only [QB];by_cases h1:k=i
 .subst h1;simp only [if_true];by_cases h2:k=i2
  .subst h2;simp only [if_true];cases X[k]? with
   |none=>rfl
   |some row=>simp only [Option.map_some];rw [List.set_comm _ _ h]
  .rw [if_neg h2,if_neg h2]
 .rw [if_neg h1];by_cases h2:k=i2
  .subst h2;simp only [if_true,if_neg h1]
  .simp only [if_neg h1,if_neg h2]
theorem pT(X:List (List T))(i j:Nat)(o t:T):Dn (Dn X i j t) i j o=Dn X i j o:=by
 apply List.ext_getElem?;intro k;simp only [QB];by_cases h1:k=i
 .subst h1;simp only [if_true];cases X[k]? with
  |none=>rfl
  |some row=>simp
 .simp only [if_neg h1]
namespace Y
section
variable{R:List GF}{ρ:Type}
theorem YJ(i j:Nat)(o:T):∀(hs:List (Nat×Nat)) (X:List (List T)),(∀p∈hs,p.2≠j)->Dn (GA X hs) i j o=GA (Dn X i j o) hs
 | [],X,_=>rfl
 |(a,b)::hs,X,h=>by
  simp only [GA];rw [YJ i j o hs _ (fun p hp=>h p (by simp [hp])),pS X i j a b o .top (h (a,b) (by simp))]
theorem tG{c:C}{xs:List c.D}{i j:Nat}{o:U}{x x':c.D}(hx:xs[i]?=some x)(h:ofC c ((cells c x).set j o)=some x'):Dn (xs.map (enc c)) i j o.fg=(xs.set i x').map (enc c):=by
 have h1:i<xs.length:=(List.getElem?_eq_some_iff.1 hx).1;apply List.ext_getElem?;intro k;simp only [QB,List.getElem?_map,List.getElem?_set];by_cases hk:k=i
 .subst hk;simp only [if_true,hx,Option.map_some,h1,Option.some.injEq];rw [Dc h,CC,List.map_set]
 .rw [if_neg hk,if_neg (fun h=>hk h.symm)]
theorem Gv:∀{ls:List AB} {us:List U} {S:St} {K:St->Option ρ} {r:ρ},C0 S ls us K=some r ->
 ∃S',Lv.C0 (S.fg R) (ls.map (AB.fg R)) (us.map U.fg)=some (S'.fg R)/\AU S S'/\K S'=some r
 | [],[],S,K,r,h=>⟨S,rfl,AU.refl _,h⟩
 | [],u::us,S,K,r,h=>by simp [C0] at h
 |l::ls,[],S,K,r,h=>by cases l <;> simp [C0] at h
 |l::ls,o::us,S,K,r,h=>by
  cases l with
  |t x=>
   have h:C0 S ls us K=some r:=h;obtain⟨S',h1,h2,h3⟩:=Gv h;exact⟨S',h1,h2,h3⟩
  |al q sub=>
   cases sub with
   |some p=>simp [C0] at h
   |none=>
    have h:C0 (S.AY q (.ow o)) ls us K=some r:=h;obtain⟨S',h1,h2,h3⟩:=Gv h;refine⟨S',?_,(AU.AY _ _ _).trans h2,h3⟩;rw [Cx] at h1;exact h1
  |vw s c xs=>
   cases s with
   |old k=>simp [C0] at h
   |own q p=>
    cases p with
    |none=>simp [C0] at h
    |some p=>
     obtain⟨i,j⟩:=p;simp only [C0] at h;split at h
     .rename_i c' rows i' j' hs hat;split at h
      .rename_i hj;obtain⟨rfl,hall⟩:=hj;obtain⟨rfl,h⟩:=Gw h;obtain⟨x,hx,h⟩:=Oh h;split at h
       .rename_i x' hx';obtain⟨S',h1,h2,h3⟩:=Gv h;refine⟨S',?_,((AU.AY _ _ _).trans (AU.kill _ _)).trans h2,h3⟩;have hne:∀p∈hs,p.2≠j':=by
         intro p hp;have:=List.all_eq_true.1 hall p hp;intro he;simp [he] at this
        simp only [List.map_cons,AB.fg,Lv.C0,Ec,hat,Option.map_some];rw [<-Em (J5 q),Cx] at h1;rw [<-h1];congr 3;simp only [GA];rw [YJ _ _ _ hs _ hne,pT,tG hx hx'];cases hs with
        |nil=>simp only [AB.fg,U.fg,GA]
        |cons p hs=>simp only [AB.fg]
       .cases h
      .cases h
     .cases h
  |_=>simp [C0] at h
theorem vE(S0 S:Lv.St)(ms:List Md)(e:Lv.Ent)(es:List Lv.Ent)(outs:List (List T)):Lv.CH S0 S (.b::ms) (e::es) outs=match xU e,outs with
 |some id,o::outs=>(match Lv.get S0.bx id,Lv.get S.bx id with
  |some ls,some ls1=>if o.length=ls1.length then Lv.CH S0 { S with bx:=Lv.put S.bx id (o.map (Lv.Bm (Lv.BP ls)))} ms es outs else none
  |_,_=>none)
 |_,_=>none:=by
 obtain⟨sh,cs⟩:=e;cases sh <;> try rfl
 rcases cs with _|⟨l,_|⟨l2,ls⟩⟩
 .rfl
 .cases l <;> try rfl
  rename_i id off;cases off <;> cases outs <;> rfl
 .cases l <;> try rfl
  rename_i id off;cases off <;> rfl
theorem w6{S0 S:St}{c:C}{ks:List PK}{e:En}{es:List En}{outs:List (List U)}{K:St->Option ρ}:CH S0 S (.b c::ks) (e::es) outs K=match bp0 e,outs with
 |some id,o::outs=>(match get S0.bx id,get S.bx id with
  |some ls,some ls1=>if o.length=ls1.cs.length then CH S0 (S.Hg id (o.map (Bm (BP ls.cs)))) ks es outs K else none
  |_,_=>none)
 |_,_=>none:=by
 obtain⟨sh,cs⟩:=e;cases sh <;> try rfl
 rcases cs with _|⟨l,_|⟨l2,ls⟩⟩
 .rfl
 .cases l <;> try rfl
  rename_i id off;cases off <;> cases outs <;> rfl
 .cases l <;> try rfl
  rename_i id off;cases off <;> rfl
theorem Gn{S0:St}:∀{ks:List PK} {es:List En} {outs:List (List U)} {S:St} {K:St->Option ρ} {r:ρ},CH S0 S ks es outs K=some r ->
 ∃S',Lv.CH (S0.fg R) (S.fg R) (ks.map PK.md) (es.map (En.fg R)) (outs.map fun o=>o.map U.fg)=some (S'.fg R)/\AU S S'/\K S'=some r
 | [],es,[],S,K,r,h=>by
  refine⟨S,?_,AU.refl _,?_⟩
  .cases es <;> rfl
  .cases es <;> exact h
 | [],es,o::outs,S,K,r,h=>by cases es <;> simp [CH] at h
 |k::ks,[],outs,S,K,r,h=>by cases outs <;> simp [CH] at h
 |k::ks,e::es,outs,S,K,r,h=>by
  cases k with
  |b c=>
   rw [w6] at h;simp only [List.map_cons,PK.md];rw [vE,qN];split at h
   .rename_i id o outs' hb;rw [hb];simp only [List.map_cons,Iv];split at h
    .rename_i ls ls1 hl hl1;rw [hl,hl1];split at h
     .rename_i hlen;obtain⟨S',h1,h2,h3⟩:=Gn h;refine⟨S',?_,(AU.Hg _ _ _).trans h2,h3⟩;simp only [Option.map_some,List.length_map,hlen,if_true];rw [Mu,I4] at h1;rw [HH];exact h1
     .cases h
    .cases h
   .cases h
  |m c=>
   cases outs with
   |nil=>simp [CH] at h
   |cons o outs=>
    have h:C0 S e.cs o (fun S'=>CH S0 S' ks es outs K)=some r:=h;obtain⟨S1,h1,h2,h3⟩:=Gv (R:=R) h;obtain⟨S',h4,h5,h6⟩:=Gn h3;refine⟨S',?_,h2.trans h5,h6⟩;simp only [List.map_cons,PK.md,Lv.CH,En.fg,h1];exact h4
  |v c=>
   have h:CH S0 S ks es outs K=some r:=by cases outs <;> exact h
   obtain⟨S',h1,h2,h3⟩:=Gn h;refine⟨S',?_,h2,h3⟩;cases outs <;> exact h1
  |p c=>
   have h:CH S0 S ks es outs K=some r:=by cases outs <;> exact h
   obtain⟨S',h1,h2,h3⟩:=Gn h;refine⟨S',?_,h2,h3⟩;cases outs <;> exact h1
  |o c=>
   have h:CH S0 S ks es outs K=some r:=by cases outs <;> exact h
   obtain⟨S',h1,h2,h3⟩:=Gn h;refine⟨S',?_,h2,h3⟩;cases outs <;> exact h1
  |f x l=>
   have h:CH S0 S ks es outs K=some r:=by cases outs <;> exact h
   obtain⟨S',h1,h2,h3⟩:=Gn h;refine⟨S',?_,h2,h3⟩;cases outs <;> exact h1
theorem Wb{S:St}{d:Nat}{ls:List AB}{K:St->Option ρ}{r:ρ}(h:I6 S d ls K=some r):∃S',Lv.I6 (S.fg R) d (ls.map (AB.fg R))=some (S'.fg R)/\AU S S'/\K S'=some r:=by
 unfold I6 at h;split at h
 .cases h
 .rename_i hm;have hp:d∉(S.fg R).pin:=GX.1 hm;refine⟨_,?_,((AU.kill _ _).trans (AU.ER _ _ _ _)).trans (AU.Hg _ _ _),h⟩;unfold Lv.I6;rw [if_neg hp,Mu,Fi,<-Em (q':=fun l=>Lv.By d l||Lv.CL d l) (fun l=>by rw [P3,P2])];rfl
theorem vD{S:St}{e:En}{k:Nat}(h:VK S e=some k):Lv.VK (S.fg R) (e.fg R)=some k:=by
 have gen:∀(cs:List AB),(if (CI (BP cs) cs).isSome=true then some (BP cs) else none)=some k->(if (Lv.CI (Lv.BP (cs.map (AB.fg R))) (cs.map (AB.fg R))).isSome=true then some (Lv.BP (cs.map (AB.fg R))) else none)=some k:=by
  intro cs h;rw [HH];cases hb:CI (BP cs) cs with
  |none=>rw [hb] at h;simp at h
  |some us=>rw [Ic hb];rw [hb] at h;simpa using h
 obtain⟨sh,cs⟩:=e;cases sh <;> try exact gen cs h
 rcases cs with _|⟨l,_|⟨l2,ls⟩⟩
 .exact gen [] h
 .have g1:=gen [l];cases l with
  |bp id off=>
   simp only [VK] at h;simp only [En.fg,List.map_cons,List.map_nil,AB.fg,Lv.VK,Iv];split at h
   .rename_i ls hl;rw [hl];exact gen _ h
   .cases h
  |_=>exact g1 h
 .have g1:=gen (l::l2::ls);cases l <;> exact g1 h
theorem na{g:GF}{S0:St}{es:List En}{k lab:Nat}(h:VL g.ps S0 es k=some lab):Lv.VL g.x (S0.fg R) (es.map (En.fg R)) k=some lab:=by
 unfold VL at h;unfold Lv.VL;rw [g.ms];simp only [List.getElem?_map];split at h
 .rename_i e he;rw [he];simp only [Option.map_some];split at h
  .cases h
  .rename_i hk;rw [if_neg]
   .exact vD h
   .intro hc;cases hp:g.ps[k]? with
    |none=>rw [hp] at hc;simp at hc
    |some q=>rw [hp] at hc;cases q <;> simp [PK.md] at hc;exact hk _ hp
 .cases h
theorem Uf:∀(cs:List C) (x:Tu cs),Jg cs x=(Kb cs x).map fun l=>l.map U.fg
 | [],_=>rfl
 | [c],x=>congrArg (fun z=>[z]) (CC c x)
 |c::c'::cs,x=>by simp only [Jg,Kb,List.map_cons,CC,Uf (c'::cs) x.2]
theorem vP{d:Nat}{g:GF}{es:List En}{S0 S:St}{x:Tu (g.rk.cs++F5 g.ps)}{K:St->Option ρ}{r:ρ}(h:post d g es S0 S x K=some r) :
 ∃S',Lv.post d g.x (es.map (En.fg R)) (S0.fg R) (S.fg R) g.rk.sh ((Jg _ x).take g.rk.cs.length).flatten ((Jg _ x).drop g.rk.cs.length)=some (S'.fg R)/\AU S S'/\K S'=some r:=by
 unfold post at h;obtain⟨S1,h1,h2,h3⟩:=Gn (R:=R) h;unfold Lv.post;rw [g.ms,Uf,<-List.map_drop,h1,<-List.map_take,<-List.map_flatten];generalize ((Kb (g.rk.cs++F5 g.ps) x).take g.rk.cs.length).flatten=us at h3;dsimp only;cases hr:g.rk with
 |ptr k c=>
  rw [hr] at h3;simp only [RK.sh];dsimp only at h3;split at h3
  .rename_i lab hl;rw [na hl];obtain⟨S2,h4,h5,h6⟩:=Wb (R:=R) h3;rw [I4] at h4;exact⟨S2,h4,h2.trans h5,h6⟩
  .cases h3
 |vw k c=>
  rw [hr] at h3;simp only [RK.sh];dsimp only at h3;split at h3
  .rename_i lab hl;rw [na hl];obtain⟨S2,h4,h5,h6⟩:=So (R:=R) h3;rw [I4] at h4;exact⟨S2,h4,h2.trans h5,h6⟩
  .cases h3
 |ret cs=>
  rw [hr] at h3;dsimp only at h3;obtain⟨S2,h4,h5,h6⟩:=So (R:=R) h3;rw [RA] at h4;refine⟨S2,?_,h2.trans h5,h6⟩;simp only [RK.sh];cases hs:iC (cs.map wC) with
  |ptr k=>exfalso;revert hs;unfold iC;split <;> simp
  |vw k=>exfalso;revert hs;unfold iC;split <;> simp
  |one=>rw [hs] at h4;exact h4
  |agg=>rw [hs] at h4;exact h4
  |tup ns=>rw [hs] at h4;exact h4
theorem cL{d:Nat}{g:GF}{fs:List Nat}{es:List En}{S:St}{K:St->Option ρ}{r:ρ}(hA:Al R fs (fX g.ps))(h:lU d g fs es S K=some r) :
 ∃S1 vs cs outs S',Lv.pre g.x (es.map (En.fg R)) (S.fg R)=some (S1,vs)/\D1 g.x vs g.rk.sh cs outs/\Lv.post d g.x (es.map (En.fg R)) (S.fg R) S1 g.rk.sh cs outs=some (S'.fg R)/\AU S S'/\K S'=some r:=by
 unfold lU at h;split at h
 .cases h
 .rename_i hc;split at h
  .rename_i S1 a h1;obtain⟨x,hx,h⟩:=Oh h;obtain⟨h2,h3⟩:=qF hA h1;obtain⟨S',h4,h5,h6⟩:=vP (R:=R) h;refine⟨_,_,_,_,S',?_,g.ok a x hx,h4,h3.trans h5,h6⟩;unfold Lv.pre;rw [g.ms];have:=cQ (R:=R) g.ps [] es;rw [List.map_nil] at this;rw [this,hc,if_neg (by decide),h2]
  .cases h
end
end Y
end Lv
namespace Lv
open Go (IntKind BinOp UnOp)
namespace Y
section
variable{R:List GF}{ρ:Type}
theorem B7{S:St}{x:YO}{l:AB}(h:S.one x=some l):(S.fg R).one (x.er R)=some (AB.fg R l):=by
 unfold St.one at h;split at h
 .rename_i l' hr;cases h;simp only [Lv.St.one,FH hr,En.fg,List.map_cons,List.map_nil]
 .cases h
theorem H5{S:St}{x:YO}{u:U}(h:S.sc x=some u):(S.fg R).sc (x.er R)=some u.fg:=by
 unfold St.sc km at h;split at h
 .rename_i o l' hr;cases h;simp only [Lv.St.sc,FH hr,En.fg,List.map_cons,List.map_nil,AB.fg,Lv.km]
 .cases h
theorem HO{S:St}{x:YO}{n:Int}(h:S.nat x=some n):(S.fg R).nat (x.er R)=some n:=by
 unfold St.nat at h;split at h
 .rename_i u hu;simp only [Lv.St.nat,H5 hu];cases u <;> simp [yh] at h <;> subst h <;> rfl
 .cases h
theorem xK{k:Kd}{a b:U}{c:Bool}(h:eqU k a b=some c):eqT k a.fg b.fg=some c:=by
 cases k <;> cases a <;> cases b <;> simp only [eqU] at h <;> first|cases h;done|exact h
theorem nN:∀{ks:List Kd} {as bs:List U} {c:Bool},fZ ks as bs=some c->jH ks (as.map U.fg) (bs.map U.fg)=some c
 | [],[],[],c,h=>h
 | [],[],b::bs,c,h=>by simp [fZ] at h
 | [],a::as,bs,c,h=>by cases bs <;> simp [fZ] at h
 |k::ks,[],bs,c,h=>by cases bs <;> simp [fZ] at h
 |k::ks,a::as,[],c,h=>by simp [fZ] at h
 |k::ks,a::as,b::bs,c,h=>by
  simp only [fZ] at h;split at h
  .rename_i x y h1 h2;cases h;simp only [List.map_cons,jH,xK h1,nN h2]
  .cases h
theorem bZ:∀{ls:List AB} {us:List U},Oa ls=some us->Lv.Oa (ls.map (AB.fg R))=some (us.map U.fg)
 | [],us,h=>by cases h;rfl
 |l::ls,us,h=>by
  cases l with
  |t x=>
   simp only [Oa] at h;split at h
   .rename_i us' h1;cases h;simp only [List.map_cons,AB.fg,Lv.Oa,bZ h1,Option.map_some]
   .cases h
  |_=>simp [Oa] at h
theorem rb{cst:Bool}{p:Prop} [Decidable p] {x:Option ρ} {r:ρ} (h:gdc cst p x=some r):p/\x=some r:=by
 cases cst with
 |true=>simp only [gdc] at h;split at h <;> simp_all
 |false=>exact Gw h
theorem uy{cst:Bool}{op:BinOp}{k:IntKind}{a b:Int}{K:U->Option ρ}{r:ρ}(h:xR cst op k a b K=some r):∃u,Rs op k a b=some (U.fg u)/\K u=some r:=by
 cases op <;> simp only [xR] at h <;> first
  |exact⟨_,rfl,h⟩
  |(obtain⟨h1,h⟩:=rb h;exact⟨_,by simp only [Rs];rw [if_neg h1];rfl,h⟩)
  |cases h
theorem tJ{cst:Bool}{op:BinOp}{k:IntKind}{a b:Int}{K:U->Option ρ}{r:ρ}(h:shU cst op k a b K=some r):∃u,ko op k a b=some (U.fg u)/\K u=some r:=by
 cases op <;> simp only [shU] at h <;> first
  |cases h;done
  |(obtain⟨h1,h⟩:=rb h;exact⟨_,by simp only [ko];rw [if_neg h1];rfl,h⟩)
theorem ta(n:Int):(U.u8 (toB n)).fg=.int .u8 (IntKind.u8.wrap n):=by simp only [U.fg,pe]
theorem xB{op:BinOp}{a b:Int}{K:U->Option ρ}{r:ρ}(h:byU op a b K=some r):∃u,Rs op .u8 a b=some (U.fg u)/\K u=some r/\vA op=false:=by
 cases op <;> simp only [byU] at h <;> first
  |cases h;done
  |exact⟨_,by rw [ta];rfl,h,rfl⟩
  |exact⟨_,rfl,h,rfl⟩
theorem Y5{op:BinOp}{k k':IntKind}{a b:Int}:S4 op (.int k a) (.int k' b)=if vA op=true then ko op k a b else if k=k' then Rs op k a b else none:=by
 cases op <;> rfl
theorem uN{cst:Bool}{op:BinOp}{x y:U}{K:U->Option ρ}{r:ρ}(h:w7 cst op x y K=some r):∃u,S4 op x.fg y.fg=some (U.fg u)/\K u=some r:=by
 unfold w7 at h;split at h
 .rename_i k a k' b;split at h
  .rename_i hs;obtain⟨u,h1,h2⟩:=tJ h;exact⟨u,by show S4 op (.int k a) (.int k' b)=_;rw [Y5,if_pos hs];exact h1,h2⟩
  .rename_i hs;split at h
   .rename_i hk;split at h
    .cases h
    .obtain⟨u,h1,h2⟩:=uy h;exact⟨u,by show S4 op (.int k a) (.int k' b)=_;rw [Y5,if_neg hs,if_pos hk];exact h1,h2⟩
   .cases h
 .rename_i k a b;split at h
  .rename_i hs;obtain⟨u,h1,h2⟩:=tJ h;exact⟨u,by show S4 op (.int k a) (.int .u8 b.toNat)=_;rw [Y5,if_pos hs];exact h1,h2⟩
  .cases h
 .rename_i a b;obtain⟨u,h1,h2,h3⟩:=xB h;exact⟨u,by show S4 op (.int .u8 a.toNat) (.int .u8 b.toNat)=_;rw [Y5,if_neg (by simp [h3]),if_pos rfl];exact h1,h2⟩
 .rename_i a b;split at h
  .obtain⟨h1,h⟩:=Gw h;exact⟨_,by show (if a.length+b.length<=bL then some (T.str (a++b)) else none)=some (U.fg (.str (a++b)));rw [if_pos h1];rfl,h⟩
  .exact⟨_,rfl,h⟩
  .exact⟨_,rfl,h⟩
  .cases h
 .cases h
theorem jG{op:BinOp}{b:Bool}{K:U->Option ρ}{r:ρ}(h:eqK op b K=some r):∃u,XP op b=some (U.fg u)/\K u=some r:=by
 cases op <;> simp only [eqK] at h <;> first
  |cases h;done
  |exact⟨_,rfl,h⟩
theorem Ru{α β:Type}{f:α->β}{xs:List α}(h:xs.isEmpty=false):∃y ys,xs.map f=y::ys:=by
 cases xs with
 |nil=>simp at h
 |cons x xs=>exact⟨_,_,rfl⟩
theorem vI{S:St}{l:AB}{K:Bool->Option ρ}{r:ρ}(h:S.OQ l K=some r):∃b,(S.fg R).OQ (AB.fg R l)=some b/\K b=some r:=by
 unfold St.OQ at h;split at h
 .exact⟨true,rfl,h⟩
 .rename_i s c xs;obtain⟨h1,h⟩:=Gw h;obtain⟨y,ys,hy⟩:=Ru (f:=enc c) h1;exact⟨false,by simp only [AB.fg,hy,Lv.St.OQ],h⟩
 .rename_i q;simp only [AB.fg,Lv.St.OQ,Ec];split at h
  .rename_i hq;rw [hq];exact⟨true,rfl,h⟩
  .rename_i c xs hq;rw [hq];obtain⟨h1,h⟩:=Gw h;obtain⟨y,ys,hy⟩:=Ru (f:=enc c) h1;exact⟨false,by simp only [Option.map_some,AB.fg,U.fg,hy],h⟩
  .cases h
 .cases h
theorem w8{S:St}{cst:Bool}{c:Cls}{op:BinOp}{x y:En}{K:U->Option ρ}{r:ρ}(h:S.bin cst c op x y K=some r):∃u,(S.fg R).bin c op (x.fg R) (y.fg R)=some (U.fg u)/\K u=some r:=by
 unfold St.bin at h;split at h
 .split at h
  .exact uN h
  .cases h
 .split at h
  .exact jG h
  .cases h
 .split at h
  .obtain⟨b,h1,h2⟩:=vI (R:=R) h;obtain⟨u,h3,h4⟩:=jG h2;rename_i l;exact⟨u,by show (match (S.fg R).OQ (AB.fg R l) with|some b=>XP op b|none=>none)=_;rw [h1];exact h3,h4⟩
  .cases h
 .split at h
  .split at h
   .rename_i as' bs' h1 h2;split at h
    .rename_i b hb;obtain⟨u,h3,h4⟩:=jG h;refine⟨u,?_,h4⟩;simp only [En.fg,Lv.St.bin,bZ h1,bZ h2,nN hb,h3]
    .cases h
   .cases h
  .cases h
theorem yJ{op:UnOp}{x:U}{K:U->Option ρ}{r:ρ}(h:unU op x K=some r):∃u,unT op x.fg=some (U.fg u)/\K u=some r:=by
 unfold unU at h;split at h
 .cases op <;> simp only at h <;> first|cases h;done|exact⟨_,rfl,h⟩
 .cases op <;> simp only at h <;> first|cases h;done|(split at h;cases h;exact⟨_,rfl,h⟩)
 .cases h
theorem sJ(k:IntKind)(n:Int):(mkInt k n).fg=.int k (k.wrap n):=by cases k <;> simp only [mkInt,ta] <;> rfl
theorem ou:∀(n:Nat) (x:tD n),Rm (.st n)=true->(yV n x).all flat=true
 |0,x,_=>rfl
 |1,x,h=>absurd h (by decide)
 |2,x,_=>rfl
 |3,x,_=>rfl
 |4,x,_=>rfl
 |5,x,_=>rfl
 |6,x,h=>absurd h (by decide)
 |7,x,h=>absurd h (by decide)
 |8,x,h=>absurd h (by decide)
 |9,x,_=>rfl
 |10,x,_=>rfl
 |11,x,h=>absurd h (by decide)
 |12,x,h=>absurd h (by decide)
 |13,x,h=>absurd h (by decide)
 |14,x,h=>absurd h (by decide)
 |15,x,_=>rfl
 |16,x,h=>absurd h (by decide)
 |17,x,h=>absurd h (by decide)
 |_+18,x,_=>rfl
theorem ot{c:C}(h:Rm c=true)(x:c.D):(enc c x).all flat=true:=by
 cases c with
 |l c=>cases h
 |m=>cases h
 |st n=>exact ou n x h
 |_=>rfl
theorem ET{c:C}(h:Rm c=true)(xs:List c.D):Cm (xs.map (enc c))=true:=by
 simp only [Cm,List.all_map,List.all_eq_true];intro x _;exact ot h x
theorem vZ{c:C}{fl:Bool}{S S':St}{l:AB}{ys:List c.D}(h:IU c fl S l=some (S',ys)):Lv.IU c.size fl (S.fg R) (AB.fg R l)=some (S'.fg R,ys.map (enc c))/\AU S S':=by
 unfold IU at h;split at h
 .rename_i s;split at h
  .rename_i xs hx;cases h;have hc:C.u=c:=by
    simp only [Rw.as] at hx;split at hx
    .rename_i hc;exact hc
    .cases hx
   subst hc;have:=Sx hx;simp only [AB.fg,U.fg,Lv.IU,C.size,if_true,<-this,Rw.fg];exact⟨rfl,AU.refl _⟩
  .cases h
 .cases h;exact⟨rfl,AU.refl _⟩
 .rename_i s c' xs;split at h
  .rename_i hf;split at h
   .rename_i ys' hx;cases h;have hc:c'=c:=by
     simp only [Rw.as] at hx;split at hx
     .rename_i hc;exact hc
     .cases hx
    subst hc;have:=Sx hx;simp only [AB.fg,Lv.IU,ET hf,and_self,if_true,<-this,Rw.fg];exact⟨trivial,AU.refl _⟩
   .cases h
  .cases h
 .rename_i q sub;simp only [AB.fg,Lv.IU,Ec];split at h
  .rename_i x hx;rw [hx];split at h
   .rename_i w hw;split at h
    .rename_i ys' hy;have he:eOf c.size x.fg=true:=by
      cases x <;> simp [content] at hw <;> subst hw <;> simp only [U.fg,eOf];simp only [Rw.sub,Rw.as] at hy;split at hy
      .rename_i hc;subst hc;simp
      .cases hy
     have hyy:=Sx hy;rw [tN] at hyy;simp only [Option.map_some,AB.fg,NW hw,he,if_true,hyy];cases fl with
     |true=>
      simp only [if_true] at h ⊢;split at h
      .rename_i hf;cases h;rw [if_pos (ET hf _)];exact⟨rfl,AU.refl _⟩
      .cases h
     |false=>
      simp only [Bool.false_eq_true,if_false] at h ⊢;cases h;rw [RJ];exact⟨rfl,AU.out _ _⟩
    .cases h
   .cases h
  .cases h
 .cases h
theorem re{e:Option (Nat×Nat)}{x:Option ρ}{r:ρ}(h:gdo e x=some r):(∀a b,e=some (a,b)->a=b)/\x=some r:=by
 cases e with
 |none=>exact⟨by intros;contradiction,h⟩
 |some p=>
  obtain⟨a,b⟩:=p;obtain⟨h1,h2⟩:=Gw h;exact⟨fun a' b' hh=>by cases hh;exact h1,h2⟩
theorem cE{c:C}{S S':St}{l:AB}{b:U}{n:Nat}{e:Option (Nat×Nat)}(h:KK c S l=some (S',b,n,e))(he:∀a b,e=some (a,b)->a=b):Lv.KK c.size (S.fg R) (AB.fg R l)=some (S'.fg R,b.fg,n)/\AU S S':=by
 unfold KK at h;split at h
 .cases h;exact⟨rfl,AU.refl _⟩
 .rename_i q sub;simp only [AB.fg,Lv.KK,Ec];split at h
  .rename_i x hx;rw [hx];split at h
   .rename_i w hw;split at h
    .rename_i ys hy;cases h;have heo:eOf c.size x.fg=true:=by
      cases x <;> simp [content] at hw <;> subst hw <;> simp only [U.fg,eOf];simp only [Rw.as] at hy;split at hy
      .rename_i hc;subst hc;simp
      .cases hy
     have hyy:=Sx hy;have hte:toEnd sub (ys.map (enc c)).length=true:=by
      cases sub with
      |none=>rfl
      |some p=>
       obtain⟨lo,m⟩:=p;have:=he _ _ rfl;simp [toEnd,this]
     simp only [Option.map_some,AB.fg,NW hw,hyy];rw [if_pos ⟨heo,hte⟩,RJ,QJ];refine⟨?_,AU.out _ _⟩;rw [bX,<-RR,List.length_map]
    .cases h
   .cases h
  .cases h
 .rename_i q i j c' xs;split at h
  .rename_i hc;subst hc;split at h
   .rename_i S1 h1;cases h;obtain⟨h2,h3⟩:=nq (R:=R) h1;simp only [AB.fg,Lv.KK,if_true,h2,U.fg,List.length_map];exact⟨trivial,h3⟩
   .cases h
  .cases h
 .cases h
theorem lD{c:C}{b u:U}{ys:List c.D}(h:uE c b ys=some u):u.fg=oM c.size b.fg (ys.map (enc c)):=by
 unfold uE at h;split at h
 .rename_i c' xs;split at h
  .rename_i hc;subst hc;cases h;simp only [U.fg,oM,List.map_append]
  .cases h
 .rename_i hn;cases h;cases b <;> simp only [U.fg,oM];exact(hn _ _ rfl).elim
end
end Y
end Lv
namespace Lv
open Go (IntKind BinOp UnOp)
theorem HY{α β:Type}(f:α->β):∀(cs ls:List α) (o:Nat),BZ (ls.map f) o (cs.map f)=(BZ ls o cs).map f
 | [],ls,o=>by cases ls <;> rfl
 |c::cs,ls,o=>by
  simp only [List.map_cons,BZ];rw [<-List.map_set,HY f cs]
theorem W5{α:Type}(t:α):∀(cs ls:List α) (o b:Nat),o<=b->b<o+cs.length->BZ (ls.set b t) o cs=BZ ls o cs
 | [],ls,o,b,h1,h2=>by simp at h2;omega
 |c::cs,ls,o,b,h1,h2=>by
  simp only [BZ];by_cases h:b=o
  .subst h;rw [List.set_set]
  .rw [List.set_comm _ _ h];exact W5 t cs _ _ _ (by omega) (by simp at h2;omega)
namespace Y
section
variable{R:List GF}{ρ:Type}
theorem YP(r:Ao)(i:Nat):∀(j:Nat) (us:List U),(Dj r i j us).map (AB.fg R)=Lv.Dj r i j (us.map U.fg)
 |_,[]=>rfl
 |j,u::us=>by simp only [Dj,List.map_cons,Lv.Dj,YQ,YP r i (j+1) us]
theorem Y4{c:C}{xs:List c.D}{i:Int}{x:c.D}(h:at? xs i=some x):(xs.map (enc c))[i.toNat]?=some (enc c x):=w5 (enc c) h
theorem Pu{S:St}{n:Nat}{l:AB}{K:List AB->Option ρ}{r:ρ}(h:S.load n l K=some r):∃ls,(S.fg R).load n (AB.fg R l)=some (ls.map (AB.fg R))/\K ls=some r:=by
 unfold St.load at h;split at h
 .rename_i id o;simp only [AB.fg,Lv.St.load,Iv];split at h
  .rename_i ls hl;rw [hl];split at h
   .rename_i hc;refine⟨_,?_,h⟩;simp only [Option.map_some,List.length_map,hc,if_true,lB,List.map_take,List.map_drop]
   .cases h
  .cases h
 .rename_i q i j;simp only [AB.fg,Lv.St.load,Ec];split at h
  .rename_i c xs hx;rw [hx];obtain⟨x,h1,h⟩:=Oh h;split at h
   .rename_i hc;refine⟨_,?_,h⟩;have h2:=Y4 h1;simp only [Option.map_some,AB.fg,U.fg,h2,CC,List.length_map,hc,if_true,YP,List.map_take,List.map_drop]
   .cases h
  .cases h
 .rename_i s cs;split at h
  .rename_i hc;refine⟨_,?_,h⟩;simp only [AB.fg,Lv.St.load,List.length_map,hc,if_true,Option.some.injEq];rw [<-List.map_take,List.map_map,List.map_map];congr 1;funext u;exact(YQ _ _).symm
  .cases h
 .cases h
theorem MQ:∀ls:List AB,Lv.DF (ls.map (AB.fg R))=DF ls
 | []=>rfl
 |l::ls=>by
  have ih:=MQ ls;cases l with
  |t x=>cases x <;> first|rfl|exact ih
  |und=>rfl
  |_=>exact ih
theorem Wj(b o n:Nat)(l:AB):Lv.DN b o n (AB.fg R l)=DN b o n l:=by
 simp only [Lv.DN,DN,E0];cases l.AZ with
 |none=>rfl
 |some q=>
  cases q with
  |tmp s c=>rfl
  |cell b' c=>
   simp only [JU];have h1:Nat.ble o c=decide (o<=c):=by
    cases h:Nat.ble o c with
    |true=>simp [Nat.le_of_ble_eq_true h]
    |false=>
     symm;rw [decide_eq_false_iff_not];intro hh;rw [Nat.ble_eq_true_of_le hh] at h;cases h
   have h2:Nat.blt c (o+n)=decide (c<o+n):=by
    unfold Nat.blt;cases h:Nat.ble c.succ (o+n) with
    |true=>have:=Nat.le_of_ble_eq_true h;symm;rw [decide_eq_true_eq];omega
    |false=>
     symm;rw [decide_eq_false_iff_not];intro hh;rw [Nat.ble_eq_true_of_le hh] at h;cases h
   rw [h1,h2]
def iT:List T->List (Nat×Nat)->List T
 |row,[]=>row
 |row,(_,b)::hs=>iT (row.set b .top) hs
theorem iU:∀(hs:List (Nat×Nat)) (row:List T),(iT row hs).length=row.length
 | [],row=>rfl
 |(a,b)::hs,row=>by simp only [iT,iU hs,List.length_set]
theorem Qx(i:Nat):∀(hs:List (Nat×Nat)) (X:List (List T)) (k:Nat),(∀p∈hs,p.1=i)->(GA X hs)[k]?=if k=i then (X[i]?).map (fun row=>iT row hs) else X[k]?
 | [],X,k,h=>by
  simp only [GA,iT];split
  .rename_i hk;subst hk;cases X[k]? <;> rfl
  .rfl
 |(a,b)::hs,X,k,h=>by
  have ha:a=i:=h (a,b) (by simp);subst ha;simp only [GA];rw [Qx a hs _ k (fun p hp=>h p (by simp [hp]))];simp only [QB,if_true];split
  .cases X[a]? <;> rfl
  .rfl
theorem R8(j:Nat)(ts:List T):∀(hs:List (Nat×Nat)) (row:List T),(∀p∈hs,j<=p.2/\p.2<j+ts.length)->BZ (iT row hs) j ts=BZ row j ts
 | [],row,h=>rfl
 |(a,b)::hs,row,h=>by
  simp only [iT];rw [R8 j ts hs _ (fun p hp=>h p (by simp [hp]))];have:=h (a,b) (by simp);exact W5 _ _ _ _ _ this.1 this.2
theorem VE{i j n:Nat}:∀{hs:List (Nat×Nat)},Jq i j n hs->(∀p∈hs,p.1=i)/\(∀p∈hs,j<=p.2/\p.2<j+n)
 | [],_=>⟨by simp,by simp⟩
 |(a,b)::hs,h=>by
  obtain⟨h1,h2,h3⟩:=h;obtain⟨h4,h5⟩:=VE h3;constructor
  .intro p hp;rcases List.mem_cons.1 hp with rfl|hp
   .exact h1
   .exact h4 p hp
  .intro p hp;rcases List.mem_cons.1 hp with rfl|hp
   .exact h2
   .exact h5 p hp
theorem tQ{n:Nat}{ls:List AB}{S S':St}{ls':List AB}(h:QL n S ls=some (S',ls')):Lv.QL n (S.fg R) (ls.map (AB.fg R))=some (S'.fg R,ls'.map (AB.fg R))/\AU S S':=by
 unfold QL at h;unfold Lv.QL;split at h
 .rename_i hn;rw [Nat.blt_eq] at hn;rw [if_pos hn];exact JO h
 .rename_i hn;rw [if_neg fun h2=>by rw [<-Nat.blt_eq,hn] at h2;cases h2];cases h;exact⟨rfl,AU.refl _⟩
theorem pZ{S:St}{n:Nat}{p:AB}{cs:List AB}{K:St->Option ρ}{r:ρ}(h:S.KD n p cs K=some r) :
 ∃S',(S.fg R).KD n (AB.fg R p) (cs.map (AB.fg R))=some (S'.fg R)/\AU S S'/\K S'=some r:=by
 unfold St.KD at h;split at h
 .rename_i id o;split at h
  .rename_i S1 cs' h1;obtain⟨h2,h3⟩:=tQ (R:=R) h1;split at h
   .cases h
   .rename_i ht;dsimp only at h;split at h
    .rename_i ls hl;split at h
     .rename_i hlen;refine⟨_,?_,(h3.trans (AU.kill _ _)).trans (AU.Hg _ _ _),h⟩;simp only [AB.fg,Lv.St.KD,h2,MQ,ht,Bool.false_eq_true,if_false,List.length_map];rw [Em (Wj id o cs'.length),Iv,hl];simp only [Option.map_some,List.length_map,hlen,if_true];rw [Mu,Fs (Wj id o cs'.length),HY]
     .cases h
    .cases h
  .cases h
 .rename_i q i j;split at h
  .rename_i S1 us h1;obtain⟨h2,h3⟩:=GP (R:=R) h1;simp only [AB.fg,Lv.St.KD,h2,Ec];split at h
   .rename_i c xs hx;rw [hx];obtain⟨x,h4,h⟩:=Oh h;split at h
    .rename_i hlen;split at h
     .rename_i x' hx';refine⟨_,?_,(h3.trans (AU.AY _ _ _)).trans (AU.kill _ _),h⟩;have h5:=Y4 h4;simp only [Option.map_some,AB.fg,U.fg,h5,CC,List.length_map,hlen,if_true,Option.some.injEq];rw [<-Em (J5 q),Cx];congr 2;simp only [AB.fg,U.fg];rw [List.map_set,Dc hx',HY]
     .cases h
    .cases h
   .rename_i c xs hs hx;rw [hx];obtain⟨x,h4,h⟩:=Oh h;split at h
    .rename_i hlen;split at h
     .rename_i x' hx';obtain⟨hh,h⟩:=@Gw _ _ (Sj i.toNat j us.length hs) _ _ h;obtain⟨hr,hcol⟩:=VE hh;refine⟨_,?_,(h3.trans (AU.AY _ _ _)).trans (AU.kill _ _),h⟩;have h5:=Y4 h4;have h6:=Qx i.toNat hs (xs.map (enc c)) i.toNat hr;rw [if_pos rfl,h5] at h6;simp only [Option.map_some] at h6;simp only [Option.map_some,AB.fg,h6,iU,Hv];have hl2:j+(us.map U.fg).length<=c.size:=by rw [List.length_map,<-Qb c x];exact hlen
      rw [if_pos hl2,<-Em (J5 q),Cx];congr 3;simp only [AB.fg,U.fg];have h7:BZ (iT (enc c x) hs) j (us.map U.fg)=enc c x':=by
       rw [R8 _ _ _ _ (by rw [List.length_map];exact hcol),Dc hx',CC,HY]
      rw [h7];congr 1;congr 1;apply List.ext_getElem?;intro k;have hlt:i.toNat<xs.length:=(Ia h4).2.2.1;have hlt2:i.toNat<(GA (xs.map (enc c)) hs).length:=(List.getElem?_eq_some_iff.1 h6).1;rw [List.getElem?_set,List.getElem?_map,List.getElem?_set];by_cases hk:i.toNat=k
      .subst hk;simp only [if_true,hlt,hlt2,Option.map_some]
      .rw [if_neg hk,if_neg hk,Qx i.toNat hs _ k hr,if_neg (fun h=>hk h.symm),List.getElem?_map]
     .cases h
    .cases h
   .cases h
  .cases h
 .cases h
def erP(R:List GF)(p:Nat×Nat×YO):Nat×Nat×Opd:=(p.1,p.2.1,p.2.2.er R)
theorem Xo{S:St}:∀{ps:List (Nat×Nat×YO)} {ls ls':List AB},Fw S ls ps=some ls'->Lv.Fw (S.fg R) (ls.map (AB.fg R)) (ps.map (erP R))=some (ls'.map (AB.fg R))
 | [],ls,ls',h=>by cases h;rfl
 |(o,n,x)::ps,ls,ls',h=>by
  simp only [Fw] at h;split at h
  .rename_i e he;split at h
   .rename_i hc;have:=Xo (ps:=ps) h;simp only [List.map_cons,erP,Lv.Fw,FH he,En.fg,List.length_map,MQ];rw [if_pos hc,HY];exact this
   .cases h
  .cases h
def erQ(R:List GF)(p:Nat×YO):Nat×Opd:=(p.1,p.2.er R)
theorem qO{c:C}{n:Nat}:∀{ps:List (Nat×YO)} {S S':St} {xs xs':List c.D},bsK c n S xs ps=some (S',xs') ->
 Lv.bsK c.size n (S.fg R) (xs.map (enc c)) (ps.map (erQ R))=some (S'.fg R,xs'.map (enc c))/\AU S S'
 | [],S,S',xs,xs',h=>by cases h;exact⟨rfl,AU.refl _⟩
 |(i,x)::ps,S,S',xs,xs',h=>by
  simp only [bsK] at h;split at h
  .rename_i e he;split at h
   .rename_i hc;split at h
    .rename_i S1 us h1;obtain⟨h2,h3⟩:=GP (R:=R) h1;split at h
     .rename_i y hy;obtain⟨h4,h5⟩:=qO (ps:=ps) h;simp only [List.map_cons,erQ,Lv.bsK,FH he,En.fg,List.length_map];rw [if_pos hc,h2];dsimp only;rw [<-Dc hy,<-List.map_set];exact⟨h4,h3.trans h5⟩
     .cases h
    .cases h
   .cases h
  .cases h
theorem qP{c:C}{n:Nat}{z:List T}:∀{ps:List (Nat×YO)} {S S':St} {ys:List c.D} (pre:List (List T)),bsL c n S ps=some (S',ys)->ft pre.length n ps=true->pre.length<=n ->
 Lv.bsK c.size n (S.fg R) (pre++List.replicate (n-pre.length) z) (ps.map (erQ R))=some (S'.fg R,pre++ys.map (enc c))/\AU S S'
 | [],S,S',ys,pre,h,ho,hn=>by
  cases h;simp only [ft,beq_iff_eq] at ho;simp only [List.map_nil,Lv.bsK,ho,Nat.sub_self,List.replicate_zero];exact⟨trivial,AU.refl _⟩
 |(i,x)::ps,S,S',ys,pre,h,ho,hn=>by
  simp only [ft,Bool.and_eq_true,beq_iff_eq] at ho;obtain⟨rfl,ho⟩:=ho;simp only [bsL] at h;split at h
  .rename_i e he;split at h
   .rename_i hc;split at h
    .rename_i S1 us h1;obtain⟨h2,h3⟩:=GP (R:=R) h1;split at h
     .rename_i y S2 ys' hy h6;cases h;have hl:(pre++[enc c y]).length=pre.length+1:=by simp
      obtain⟨h4,h5⟩:=qP (z:=z) (ps:=ps) (pre++[enc c y]) h6 (by rw [hl];exact ho) (by rw [hl];omega);simp only [List.map_cons,erQ,Lv.bsK,FH he,En.fg,List.length_map];rw [if_pos hc,h2];dsimp only;rw [<-Dc hy];have hs:(pre++List.replicate (n-pre.length) z).set pre.length (enc c y)=(pre++[enc c y])++List.replicate (n-(pre++[enc c y]).length) z:=by
       rw [List.set_append_right _ _ (Nat.le_refl _),Nat.sub_self,hl];have:n-pre.length=(n-(pre.length+1))+1:=by omega
       rw [this,List.replicate_succ];simp
      rw [hs];refine⟨?_,h3.trans h5⟩;simpa [erQ] using h4
     .cases h
    .cases h
   .cases h
  .cases h
theorem HS{S:St}{len:Nat}{lo hi:Option YO}{K:Nat->Nat->Option ρ}{r:ρ}(h:range S len lo hi K=some r) :
 ∃a b,(S.fg R).range len (lo.map (YO.er R)) (hi.map (YO.er R))=some (a,b)/\K a b=some r/\∀{α:Type} (xs:List α),xs.length=len->part lo hi xs a b=(xs.drop a).take (b-a):=by
 unfold range at h;split at h
 .refine⟨0,len,?_,h,fun xs hx=>by subst hx;simp [part]⟩;simp [Lv.St.range,Lv.St.gP]
 .rename_i x;split at h
  .rename_i a ha;obtain⟨h1,h⟩:=Gw h;refine⟨_,_,?_,h,fun xs hx=>?_⟩
   .simp only [Option.map_some,Option.map_none,Lv.St.range,Lv.St.gP,HO ha];rw [if_pos ⟨h1.1,h1.2,Int.le_refl _⟩];simp
   .simp only [part];rw [List.take_of_length_le (by simp [hx])]
  .cases h
 .rename_i y;split at h
  .rename_i b hb;obtain⟨h1,h⟩:=Gw h;refine⟨_,_,?_,h,fun xs hx=>by simp [part]⟩;simp only [Option.map_some,Option.map_none,Lv.St.range,Lv.St.gP,HO hb];rw [if_pos ⟨Int.le_refl _,h1.1,h1.2⟩];rfl
  .cases h
 .rename_i x y;split at h
  .rename_i a b ha hb;obtain⟨h1,h⟩:=Gw h;refine⟨_,_,?_,h,fun xs hx=>rfl⟩;simp only [Option.map_some,Lv.St.range,Lv.St.gP,HO ha,HO hb];rw [if_pos h1]
  .cases h
theorem Pl:∀(hs:List (Nat×Nat)) (X:List (List T)),(GA X hs).length=X.length
 | [],_=>rfl
 |(i,j)::hs,X=>by rw [GA,Pl hs];simp [Dn]
theorem M0{S:St}{c:C}{l:AB}(h:S.wide c l=true)(hl:(∃s c' xs,l=.vw s c' xs)\/(∃q sub,l=.al q sub)\/l=.t .nil):(S.fg R).wide c.size (AB.fg R l)=true:=by
 rcases hl with ⟨s,c',xs,rfl⟩|⟨q,sub,rfl⟩|rfl
 .simp only [St.wide,decide_eq_true_eq] at h;subst h;simp [AB.fg,Lv.St.wide]
 .simp only [St.wide] at h;simp only [AB.fg,Lv.St.wide,Ec];split at h
  .rename_i x hx;rw [hx];simp only [Option.map_some,AB.fg];cases x <;> simp only [U.fg,eOf];simp only [decide_eq_true_eq] at h;subst h;simp
  .rename_i c' xs hs hx;rw [hx];simp only [decide_eq_true_eq] at h;subst h;simp [AB.fg,eOf]
  .cases h
 .rfl
theorem pM{off:Nat}{p q:AB}(h:F7 off p=some q):Lv.F7 off (AB.fg R p)=some (AB.fg R q):=by
 cases p <;> simp only [F7] at h <;> first
  |cases h;done
  |(cases h;simp only [AB.fg,Lv.F7,List.map_drop])
theorem rn(p:AB):Lv.St.KP (AB.fg R p)=KP p:=by cases p <;> rfl
theorem xE{l:AB}{c:Cap}(h:l.xC=some c):c.fg=AB.fg R l/\(AB.fg R l).plain=true:=by
 unfold AB.xC at h;split at h <;> first|cases h;done|(cases h;exact⟨rfl,rfl⟩)
theorem Xl:∀{es:List En} {cs:List Cap},Y1 es=some cs->((es.map (En.fg R)).all fun e=>Lv.fv e.sh&&e.cs.length==1&&e.cs.all Lv.AB.plain)=true/\(es.map (En.fg R)).flatMap Lv.Ent.cs=cs.map Cap.fg
 | [],cs,h=>by cases h;exact⟨rfl,rfl⟩
 |e::es,cs,h=>by
  unfold Y1 at h;split at h
  .rename_i he;cases he
  .rename_i l es' he;cases he;split at h
   .rename_i c cs' h1 h2;cases h;obtain⟨h3,h4⟩:=Xl h2;obtain⟨h5,h6⟩:=xE (R:=R) h1;constructor
    .rw [List.map_cons,List.all_cons,h3];simp [En.fg,Lv.fv,h6]
    .simp only [List.map_cons,List.flatMap_cons,h4,En.fg,List.map_nil,List.singleton_append,h5]
   .cases h
  .cases h
end
end Y
end Lv
namespace Lv
open Go (IntKind BinOp UnOp)
namespace Y
section
variable{R:List GF}{ρ:Type}
def zsC(c:C):List T:=match iY c with|some z=>enc c z|none=>[]
theorem ky{c:C}{z:c.D}(h:iY c=some z):zsC c=enc c z:=by unfold zsC;rw [h]
def YOp.er:YOp R->XOp
 |.mv d x=>.mv d (x.er R)
 |.as d x=>.as d (x.er R)
 |.pick d c a b=>.pick d (c.er R) (a.er R) (b.er R)
 |.alloc d zs=>.alloc d (zs.map U.fg)
 |.box d x=>.box d (x.er R)
 |.build d zs ps=>.build d (zs.map U.fg) (ps.map (erP R))
 |.AW d n c ps=>.AW d n (zsC c) (ps.map (erQ R))
 |.ld d n x=>.ld d n (x.er R)
 |.st n x v=>.st n (x.er R) (v.er R)
 |.chk d x=>.chk d (x.er R)
 |.bin d c op x y=>.bin d c op (x.er R) (y.er R)
 |.un d op x=>.un d op (x.er R)
 |.cvI d k x=>.cvI d k (x.er R)
 |.Jb d x=>.Jb d (x.er R)
 |.He d x=>.He d (x.er R)
 |.OL d n caps=>.OL d (xr R n) (caps.map (YO.er R))
 |.Lh d c n=>.Lh d (zsC c) (n.er R) (n.er R)
 |.sub d c x lo hi=>.sub d c.size (x.er R) (lo.map (YO.er R)) (hi.map (YO.er R))
 |.M8 d x lo hi=>.M8 d (x.er R) (lo.map (YO.er R)) (hi.map (YO.er R))
 |.fa d off x=>.fa d off (x.er R)
 |.fld d off n x=>.fld d off n (x.er R)
 |.ia d c x i=>.ia d c.size (x.er R) (i.er R)
 |.ix d x i=>.ix d (x.er R) (i.er R)
 |.ext d x i=>.ext d (x.er R) i
 |.call d g _ _ args=>.call d g.x (args.map (YO.er R))
 |.CJ d x ms args=>.CJ d (x.er R) ms (args.map (YO.er R))
 |.len d x=>.len d (x.er R)
 |.lens d x=>.lens d (x.er R)
 |.app d c fl x y=>.app d c.size fl (x.er R) (y.er R)
 |.M4 d c x n=>.M4 d (zsC c) (x.er R) (n.er R)
 |.cpy d c x y=>.cpy d c.size (x.er R) (y.er R)
 |.mm d m x y=>.mm d m (x.er R) (y.er R)
 |.mmk d=>.mmk d
 |.M5 d x k=>.M5 d (x.er R) (k.er R)
 |.Li x k v=>.Li (x.er R) (k.er R) (v.er R)
 |.M6 d x=>.M6 d (x.er R)
 |.bad d=>.bad d
 |.drop ds=>.drop ds
 |.Av ns=>.Av (ns.map fun p=>(p.1,p.2.size))
def Plain(o:YOp R)(S:St)(K:St->Option ρ)(r:ρ):Prop:=∃S',Lv.ev o.er (S.fg R)=some (S'.fg R)/\AU S S'/\K S'=some r
theorem Aw{o:YOp R}{S S1:St}{d:Nat}{sh:Sh}{cs:List AB}{K:St->Option ρ}{r:ρ}(h:C4 S1 d sh cs K=some r)(hk:AU S S1)(he:Lv.ev o.er (S.fg R)=(S1.fg R).Bh d ⟨sh,cs.map (AB.fg R)⟩):Plain o S K r:=by
 obtain⟨S',h1,h2,h3⟩:=So (R:=R) h;exact⟨S',he.trans h1,hk.trans h2,h3⟩
variable{S:St}{K:St->Option ρ}{r:ρ}
theorem se{d:Nat}{x:YO}(h:ev (.mv d x:YOp R) S K=some r):Plain (.mv d x:YOp R) S K r:=by
 simp only [ev] at h;split at h
 .rename_i e he;exact Aw h (AU.refl _) (by simp only [YOp.er,Lv.ev,FH he,En.fg])
 .cases h
theorem sY{d:Nat}{x:YO}(h:ev (.as d x:YOp R) S K=some r):Plain (.as d x:YOp R) S K r:=by
 simp only [ev] at h;split at h
 .rename_i e he;split at h
  .rename_i S1 cs h1;obtain⟨h2,h3⟩:=JO (R:=R) h1;exact Aw h h3 (by simp only [YOp.er,Lv.ev,FH he,En.fg,h2])
  .cases h
 .cases h
theorem ai{d:Nat}{c a b:YO}(h:ev (.pick d c a b:YOp R) S K=some r):Plain (.pick d c a b:YOp R) S K r:=by
 simp only [ev] at h;split at h
 .rename_i t ea eb h1 h2 h3;rcases lF h with ⟨rfl,h'⟩|⟨rfl,h'⟩
  .exact Aw h' (AU.refl _) (by simp only [YOp.er,Lv.ev,H5 h1,FH h2,FH h3,U.fg,En.fg,if_true])
  .exact Aw h' (AU.refl _) (by simp only [YOp.er,Lv.ev,H5 h1,FH h2,FH h3,U.fg,En.fg,Bool.false_eq_true,if_false])
 .cases h
theorem Wh{d:Nat}{zs:List U}(h:ev (.alloc d zs:YOp R) S K=some r):Plain (.alloc d zs:YOp R) S K r:=by
 simp only [ev] at h;obtain⟨S',h1,h2,h3⟩:=Wb (R:=R) h;refine⟨S',?_,h2,h3⟩;rw [<-h1];simp only [YOp.er,Lv.ev,Lv.I6,List.map_map];rfl
theorem kG{d:Nat}{x:YO}(h:ev (.box d x:YOp R) S K=some r):Plain (.box d x:YOp R) S K r:=by
 simp only [ev] at h;split at h
 .rename_i e he;split at h
  .rename_i S1 cs h1;obtain⟨h2,h3⟩:=uS (R:=R) h1;split at h
   .cases h
   .rename_i hc;obtain⟨S',h4,h5,h6⟩:=Wb (R:=R) h;refine⟨S',?_,h3.trans h5,h6⟩;simp only [YOp.er,Lv.ev,FH he,En.fg,h2,MQ,List.length_map];rw [<-Fs (q':=fun l=>Lv.By d l||Lv.CL d l) (fun l=>by rw [P3,P2])] at h4;unfold Lv.I6 at h4;split at h4
    .cases h4
    .rename_i hp;rw [if_neg (by intro hh;rcases hh with hh|hh;exact hp hh;exact hc hh)];exact h4
  .cases h
 .cases h
theorem Wi{d:Nat}{zs:List U}{ps:List (Nat×Nat×YO)}(h:ev (.build d zs ps:YOp R) S K=some r):Plain (.build d zs ps:YOp R) S K r:=by
 simp only [ev] at h;split at h
 .rename_i ls hl;have:=Xo (R:=R) hl;rw [List.map_map] at this;refine Aw h (AU.refl _) ?_;simp only [YOp.er,Lv.ev,List.map_map];rw [show (Lv.AB.t∘U.fg)=(AB.fg R∘AB.t) from rfl,this]
 .cases h
theorem RG{d n:Nat}{c:C}{ps:List (Nat×YO)}(h:ev (.AW d n c ps:YOp R) S K=some r):Plain (.AW d n c ps:YOp R) S K r:=by
 simp only [ev] at h;split at h
 .rename_i z hz;split at h
  .rename_i hn;split at h
   .rename_i S1 xs hx;have hb:Lv.bsK c.size n (S.fg R) (rowsOf n (enc c z)) (ps.map (erQ R))=some (S1.fg R,xs.map (enc c))/\AU S S1:=by
     split at hx
     .rename_i ho;have:=qP (R:=R) (z:=enc c z) [] hx ho (Nat.zero_le _);simpa [rowsOf] using this
     .have:=qO (R:=R) hx;rw [List.map_replicate] at this;exact this
    refine Aw h hb.2 ?_;simp only [YOp.er,Lv.ev,ky hz,Hv];rw [if_pos hn,hb.1];rfl
   .cases h
  .cases h
 .cases h
theorem sd{d:Nat}{n:Option Nat}{x:YO}(h:ev (.ld d n x:YOp R) S K=some r):Plain (.ld d n x:YOp R) S K r:=by
 simp only [ev] at h;split at h
 .rename_i p hp;obtain⟨ls,h1,h⟩:=Pu (R:=R) h;exact Aw h (AU.refl _) (by simp only [YOp.er,Lv.ev,B7 hp,h1])
 .cases h
theorem sg{n:Nat}{x v:YO}(h:ev (.st n x v:YOp R) S K=some r):Plain (.st n x v:YOp R) S K r:=by
 simp only [ev] at h;split at h
 .rename_i p e hp he;split at h
  .rename_i hc;obtain⟨S',h1,h2,h3⟩:=pZ (R:=R) h;refine⟨S',?_,h2,h3⟩;simp only [YOp.er,Lv.ev,B7 hp,FH he,En.fg,List.length_map];rw [if_pos hc,h1]
  .cases h
 .cases h
theorem kH{d:Nat}{x:YO}(h:ev (.chk d x:YOp R) S K=some r):Plain (.chk d x:YOp R) S K r:=by
 simp only [ev] at h;split at h
 .rename_i p hp;split at h
  .rename_i hc;exact Aw h (AU.refl _) (by simp only [YOp.er,Lv.ev,B7 hp,rn,hc,if_true];rfl)
  .cases h
 .cases h
theorem kF{d:Nat}{c:Cls}{op:BinOp}{x y:YO}(h:ev (.bin d c op x y:YOp R) S K=some r):Plain (.bin d c op x y:YOp R) S K r:=by
 simp only [ev] at h;split at h
 .rename_i ex ey h1 h2;obtain⟨u,h3,h⟩:=w8 (R:=R) h;exact Aw h (AU.refl _) (by simp only [YOp.er,Lv.ev,FH h1,FH h2,h3];rfl)
 .cases h
theorem si{d:Nat}{op:UnOp}{x:YO}(h:ev (.un d op x:YOp R) S K=some r):Plain (.un d op x:YOp R) S K r:=by
 simp only [ev] at h;split at h
 .rename_i a h1;obtain⟨u,h3,h⟩:=yJ h;exact Aw h (AU.refl _) (by simp only [YOp.er,Lv.ev,H5 h1,h3];rfl)
 .cases h
theorem kJ{d:Nat}{k:IntKind}{x:YO}(h:ev (.cvI d k x:YOp R) S K=some r):Plain (.cvI d k x:YOp R) S K r:=by
 simp only [ev] at h;split at h
 .rename_i n h1;exact Aw h (AU.refl _) (by simp only [YOp.er,Lv.ev,HO h1,List.map_cons,List.map_nil,AB.fg,sJ])
 .cases h
theorem aY{d:Nat}{x:YO}(h:ev (.Jb d x:YOp R) S K=some r):Plain (.Jb d x:YOp R) S K r:=by
 simp only [ev] at h;split at h
 .rename_i s h1;exact Aw h (AU.refl _) (by simp only [YOp.er,Lv.ev,H5 h1,U.fg];rfl)
 .cases h
theorem aX{d:Nat}{x:YO}(h:ev (.He d x:YOp R) S K=some r):Plain (.He d x:YOp R) S K r:=by
 simp only [ev] at h;split at h
 .rename_i l h1;split at h
  .rename_i w hw;split at h
   .rename_i bs hb;have h2:=Iu (R:=R) hw;rw [Sx hb] at h2;refine Aw h (AU.refl _) ?_;have h3:bytesOf (bs.map (enc .u))=some bs:=cH bs;simp only [YOp.er,Lv.ev,B7 h1,h2,h3];rfl
   .cases h
  .cases h
 .cases h
theorem ae{d n:Nat}{caps:List YO}(h:ev (.OL d n caps:YOp R) S K=some r):Plain (.OL d n caps:YOp R) S K r:=by
 simp only [ev] at h;split at h
 .rename_i es he;split at h
  .rename_i cs hc;obtain⟨h1,h2⟩:=Xl (R:=R) hc;refine Aw h (AU.refl _) ?_;simp only [YOp.er,Lv.ev,RN he];rw [if_pos h1,h2];rfl
  .cases h
 .cases h
theorem af{d:Nat}{c:C}{n:YO}(h:ev (.Lh d c n:YOp R) S K=some r):Plain (.Lh d c n:YOp R) S K r:=by
 simp only [ev] at h;split at h
 .rename_i k hk;split at h
  .rename_i z hz;obtain⟨h1,h⟩:=Gw h;refine Aw h (AU.refl _) ?_;simp only [YOp.er,Lv.ev,HO hk,ky hz,Hv];rw [if_pos ⟨trivial,h1⟩];simp only [rowsOf,List.map_cons,List.map_nil,AB.fg,U.fg,List.map_replicate]
  .cases h
 .cases h
theorem aj{d:Nat}{x:YO}{lo hi:Option YO}(h:ev (.M8 d x lo hi:YOp R) S K=some r):Plain (.M8 d x lo hi:YOp R) S K r:=by
 simp only [ev] at h;split at h
 .rename_i s hs;obtain⟨a,b,h1,h,h2⟩:=HS (R:=R) h;rw [h2 s rfl] at h;exact Aw h (AU.refl _) (by simp only [YOp.er,Lv.ev,H5 hs,U.fg,h1];rfl)
 .cases h
theorem rT{q:Ao}{sub:Option (Nat×Nat)}{w:Rw}{c:C}{xs:List c.D}(h:S.elems (.al q sub)=some w)(ha:w.as c=some xs):(S.fg R).elems (.al q sub)=some (xs.map (enc c)):=by
 have:=Iu (R:=R) h;rw [Sx ha] at this;exact this
theorem kO{d:Nat}{c:C}{x:YO}{lo hi:Option YO}(h:ev (.sub d c x lo hi:YOp R) S K=some r):Plain (.sub d c x lo hi:YOp R) S K r:=by
 simp only [ev] at h;split at h
 .rename_i l hl;split at h
  .rename_i hw;split at h
   .rename_i q sub;have hw':=M0 (R:=R) hw (.inr (.inl ⟨_,_,rfl⟩));split at h
    .rename_i w he;split at h
     .rename_i xs hx;obtain⟨a,b,h1,h,_⟩:=HS (R:=R) h;have h2:=rT (R:=R) he hx;have h3:=B7 (R:=R) hl;simp only [AB.fg] at hw' h3;refine Aw h (AU.refl _) ?_;simp only [YOp.er,Lv.ev,h3,hw',if_true,h2,List.length_map,h1];cases sub with
      |none=>rfl
      |some p=>rfl
     .cases h
    .cases h
   .rename_i s c' xs;have hw':=M0 (R:=R) hw (.inl ⟨_,_,_,rfl⟩);obtain⟨a,b,h1,h,h2⟩:=HS (R:=R) h;rw [h2 xs rfl] at h;have h3:=B7 (R:=R) hl;simp only [AB.fg] at hw' h3;refine Aw h (AU.refl _) ?_;simp only [YOp.er,Lv.ev,h3,hw',if_true,Lv.St.elems,List.length_map,h1,List.map_cons,List.map_nil,AB.fg,List.map_take,List.map_drop]
   .obtain⟨a,b,h1,h,_⟩:=HS (R:=R) h;have hw':=M0 (R:=R) hw (.inr (.inr rfl));have h3:=B7 (R:=R) hl;simp only [AB.fg,U.fg] at hw' h3;refine Aw h (AU.refl _) ?_;simp only [YOp.er,Lv.ev,h3,hw',if_true,Lv.St.elems,List.length_nil,h1,List.map_cons,List.map_nil,AB.fg,U.fg]
   .cases h
  .cases h
 .cases h
theorem sZ{d off:Nat}{x:YO}(h:ev (.fa d off x:YOp R) S K=some r):Plain (.fa d off x:YOp R) S K r:=by
 simp only [ev] at h;split at h
 .rename_i p hp;split at h
  .rename_i q hq;exact Aw h (AU.refl _) (by simp only [YOp.er,Lv.ev,B7 hp,pM hq];rfl)
  .cases h
 .cases h
theorem kL{d off:Nat}{n:Option Nat}{x:YO}(h:ev (.fld d off n x:YOp R) S K=some r):Plain (.fld d off n x:YOp R) S K r:=by
 simp only [ev] at h;split at h
 .rename_i cs hr;split at h
  .rename_i hc;refine Aw h (AU.refl _) ?_;simp only [YOp.er,Lv.ev,FH hr,En.fg,List.length_map,hc,if_true,List.map_take,List.map_drop]
  .cases h
 .cases h
theorem sa{d:Nat}{c:C}{x i:YO}(h:ev (.ia d c x i:YOp R) S K=some r):Plain (.ia d c x i:YOp R) S K r:=by
 simp only [ev] at h;split at h
 .rename_i l n hl hn;split at h
  .rename_i hw;split at h
   .rename_i q sub;have hw':=M0 (R:=R) hw (.inr (.inl ⟨_,_,rfl⟩));split at h
    .rename_i c' xs he;obtain⟨y,hy,h⟩:=Oh h;have h2:=Iu (R:=R) he;have h3:=B7 (R:=R) hl;simp only [AB.fg] at hw' h3 h2;have hf:=Ia hy;refine Aw h (AU.refl _) ?_;simp only [YOp.er,Lv.ev,h3,HO hn,h2,Rw.fg,List.length_map];rw [if_pos ⟨hw',hf.1,hf.2.1⟩];cases sub with
     |none=>rfl
     |some p=>
      obtain⟨lo,m⟩:=p;simp only [List.map_cons,List.map_nil,AB.fg];congr 5;have:=hf.1;omega
    .split at h
     .split at h
      .rename_i c' xs hs hq;obtain⟨y,hy,h⟩:=Oh h;have h3:=B7 (R:=R) hl;simp only [AB.fg] at hw' h3;have hf:=Ia hy;refine Aw h (AU.refl _) ?_;simp only [YOp.er,Lv.ev,h3,HO hn,Lv.St.elems,Ec,hq,Option.map_some,AB.fg,Lv.content,Lv.Dz,Pl,List.length_map];rw [if_pos ⟨hw',hf.1,hf.2.1⟩];rfl
      .cases h
     .cases h
   .rename_i s c' xs;have hw':=M0 (R:=R) hw (.inl ⟨_,_,_,rfl⟩);obtain⟨y,hy,h⟩:=Oh h;have h3:=B7 (R:=R) hl;simp only [AB.fg] at hw' h3;have hf:=Ia hy;refine Aw h (AU.refl _) ?_;simp only [YOp.er,Lv.ev,h3,HO hn,Lv.St.elems,List.length_map];rw [if_pos ⟨hw',hf.1,hf.2.1⟩];have h4:(xs.map (enc c')).getD n.toNat []=(cells c' y).map U.fg:=by
     rw [List.getD_eq_getElem?_getD,Y4 hy,Option.getD_some,CC]
    rw [h4];rfl
   .cases h
  .cases h
 .cases h
theorem sb{d:Nat}{x i:YO}(h:ev (.ix d x i:YOp R) S K=some r):Plain (.ix d x i:YOp R) S K r:=by
 simp only [ev] at h;split at h
 .rename_i s n hs hn;obtain⟨y,hy,h⟩:=Oh h;have hf:=Ia hy;refine Aw h (AU.refl _) ?_;simp only [YOp.er,Lv.ev,H5 hs,U.fg,HO hn];rw [if_pos ⟨hf.1,hf.2.1⟩];have:s.getD n.toNat 0=y:=by rw [List.getD_eq_getElem?_getD,hf.2.2.2.1,Option.getD_some]
  rw [this];rfl
 .cases h
theorem kK{d:Nat}{x:YO}{i:Nat}(h:ev (.ext d x i:YOp R) S K=some r):Plain (.ext d x i:YOp R) S K r:=by
 simp only [ev] at h;split at h
 .rename_i s;split at h
  .rename_i ns cs v hg;split at h
   .rename_i n hn;split at h
    .rename_i hc;split at h
     .rename_i S1 ls h1;obtain⟨h2,h3⟩:=JO (R:=R) h1;refine Aw h h3 ?_;simp only [YOp.er,YO.er,Lv.ev,Pc,hg,Option.map_some,Ent.fg,hn,List.length_map,hc,if_true];rw [List.map_take,List.map_drop,Y0] at h2;rw [h2]
     .cases h
    .cases h
   .cases h
  .cases h
 .cases h
theorem aZ{d:Nat}{x:YO}(h:ev (.lens d x:YOp R) S K=some r):Plain (.lens d x:YOp R) S K r:=by
 simp only [ev] at h;split at h
 .rename_i s hs;exact Aw h (AU.refl _) (by simp only [YOp.er,Lv.ev,H5 hs,U.fg];rfl)
 .cases h
theorem kM{d:Nat}{x:YO}(h:ev (.len d x:YOp R) S K=some r):Plain (.len d x:YOp R) S K r:=by
 simp only [ev] at h;split at h
 .rename_i l hl;split at h
  .rename_i c xs he;have h2:=Iu (R:=R) he;exact Aw h (AU.refl _) (by simp only [YOp.er,Lv.ev,B7 hl,h2,Rw.fg,List.length_map];rfl)
  .rename_i he;have h2:=Iu (R:=R) he;exact Aw h (AU.refl _) (by simp only [YOp.er,Lv.ev,B7 hl,h2,Rw.fg,List.length_nil];rfl)
  .cases h
 .cases h
theorem kE{d:Nat}{c:C}{fl:Bool}{x y:YO}(h:ev (.app d c fl x y:YOp R) S K=some r):Plain (.app d c fl x y:YOp R) S K r:=by
 simp only [ev] at h;split at h
 .rename_i lx ly hx hy;split at h
  .rename_i S1 ys h1;obtain⟨h2,h3⟩:=vZ (R:=R) h1;split at h
   .rename_i S2 b n e h4;obtain⟨he,h⟩:=re h;obtain⟨h5,h6⟩:=cE (R:=R) h4 he;obtain⟨h7,h⟩:=Gw h;split at h
    .rename_i u hu;refine Aw h (h3.trans h6) ?_;simp only [YOp.er,Lv.ev,B7 hx,B7 hy,h2,h5,List.length_map];rw [if_pos h7,<-lD hu];rfl
    .cases h
   .cases h
  .cases h
 .cases h
theorem aW{d:Nat}{c:C}{x n:YO}(h:ev (.M4 d c x n:YOp R) S K=some r):Plain (.M4 d c x n:YOp R) S K r:=by
 simp only [ev] at h;split at h
 .rename_i lx k z hx hk hz;obtain⟨h1,h⟩:=Gw h;split at h
  .rename_i S2 b m e h4;obtain⟨he,h⟩:=re h;obtain⟨h5,h6⟩:=cE (R:=R) h4 he;obtain⟨h7,h⟩:=Gw h;split at h
   .rename_i u hu;refine Aw h h6 ?_;simp only [YOp.er,Lv.ev,B7 hx,HO hk,ky hz,Hv];rw [if_pos h1]
    try dsimp only
    rw [h5]
    try dsimp only
    rw [if_pos h7];have:=lD hu;rw [List.map_replicate] at this;simp only [rowsOf,<-this,List.map_cons,List.map_nil,AB.fg]
   .cases h
  .cases h
 .cases h
theorem kI{d:Nat}{c:C}{x y:YO}(h:ev (.cpy d c x y:YOp R) S K=some r):Plain (.cpy d c x y:YOp R) S K r:=by
 simp only [ev] at h;split at h
 .rename_i q ly hx hy;split at h
  .rename_i c' xs0 w hat hw;split at h
   .rename_i ys xs hys hxs;split at h
    .rename_i hc;obtain⟨hne,h⟩:=Gw h;have hcc:c'=c:=by
      simp only [Rw.as] at hxs;split at hxs
      .rename_i hc;exact hc
      .cases hxs
     subst hcc;have hx0:xs0=xs:=by simp only [Rw.as] at hxs;simpa using hxs
     subst hx0;have h2:=Iu (R:=R) hw;rw [Sx hys] at h2;have h3:=B7 (R:=R) hx;simp only [AB.fg] at h3;have hwd:(S.fg R).wide c'.size (AB.fg R ly)=true:=by
      refine M0 hc.1 ?_;unfold St.elems at hw;split at hw
      .exact .inr (.inl ⟨_,_,rfl⟩)
      .exact .inl ⟨_,_,_,rfl⟩
      .exact .inr (.inr rfl)
      .cases hw
     have hemp:(xs0.map (enc c')).isEmpty=false:=by cases xs0 <;> simp_all
     have hy':=B7 (R:=R) hy;generalize AB.fg R ly=L at hy' h2 hwd;refine Aw h ((AU.AY _ _ _).trans (AU.kill _ _)) ?_;simp only [YOp.er,Lv.ev,h3,hy',Ec,hat,Option.map_some,AB.fg,U.fg,h2];rw [if_pos ⟨trivial,hwd,ET hc.2 _,ET hc.2 _,hemp⟩,<-Em (J5 q),Cx];simp only [AB.fg,U.fg,List.map_append,List.map_take,List.map_drop,List.length_map,List.map_cons,List.map_nil]
    .cases h
   .cases h
  .cases h
 .cases h
theorem nj{d:Nat}{m:Bool}{x y:YO}(h:ev (.mm d m x y:YOp R) S K=some r):Plain (.mm d m x y:YOp R) S K r:=by
 simp only [ev] at h;split at h
 .rename_i k a k' b h1 h2;split at h
  .rename_i hk;exact Aw h (AU.refl _) (by simp only [YOp.er,Lv.ev,H5 h1,H5 h2,U.fg];rw [if_pos hk];rfl)
  .cases h
 .cases h
theorem VT{x:YO}{q:Ao}{ks:List (Int×Int)}(h:S.I3 x=some (q,ks)):(S.fg R).I3 (x.er R)=some (q,ks):=by
 unfold St.I3 at h;split at h
 .rename_i r0 h1;split at h
  .rename_i ks0 h2;cases h;have:=B7 (R:=R) h1;simp only [AB.fg] at this;unfold Lv.St.I3;simp only [this,Ec,h2,Option.map_some,AB.fg,U.fg]
  .cases h
 .cases h
theorem kN{d:Nat}(h:ev (.mmk d:YOp R) S K=some r):Plain (.mmk d:YOp R) S K r:=by
 simp only [ev] at h;exact Aw h (AU.refl _) (by simp only [YOp.er,Lv.ev];rfl)
theorem aa{d:Nat}{x k:YO}(h:ev (.M5 d x k:YOp R) S K=some r):Plain (.M5 d x k:YOp R) S K r:=by
 simp only [ev] at h;split at h
 .rename_i q ks n h1 h2;exact Aw h (AU.refl _) (by simp only [YOp.er,Lv.ev,VT h1,H5 h2,U.fg];rfl)
 .cases h
theorem ag{d:Nat}{x:YO}(h:ev (.M6 d x:YOp R) S K=some r):Plain (.M6 d x:YOp R) S K r:=by
 simp only [ev] at h;split at h
 .rename_i q ks h1;exact Aw h (AU.refl _) (by simp only [YOp.er,Lv.ev,VT h1];rfl)
 .cases h
theorem ah{x k v:YO}(h:ev (.Li x k v:YOp R) S K=some r):Plain (.Li x k v:YOp R) S K r:=by
 simp only [ev] at h;split at h
 .rename_i q ks n m h1 h2 h3;refine⟨_,?_,(AU.AY _ _ _).trans (AU.kill _ _),h⟩;simp only [YOp.er,Lv.ev,VT h1,H5 h2,H5 h3,U.fg];rw [<-Em (J5 q),Cx];rfl
 .cases h
theorem nP{o:YOp R}(h:ev o S K=some r):∃S',AU S S'/\K S'=some r/\∀N:Lv.St->Prop,N (S'.fg R)->opK D1 o.er (S.fg R) N:=by
 have pl:Plain o S K r->∃S',AU S S'/\K S'=some r/\∀N:Lv.St->Prop,N (S'.fg R)->opK D1 o.er (S.fg R) N:=fun ⟨S',h1,h2,h3⟩=>⟨S',h2,h3,fun N hN=>.inl ⟨_,h1,hN⟩⟩
 cases o with
 |mv=>exact pl (se h)
 |as=>exact pl (sY h)
 |pick=>exact pl (ai h)
 |alloc=>exact pl (Wh h)
 |box=>exact pl (kG h)
 |build=>exact pl (Wi h)
 |AW=>exact pl (RG h)
 |ld=>exact pl (sd h)
 |st=>exact pl (sg h)
 |chk=>exact pl (kH h)
 |bin=>exact pl (kF h)
 |un=>exact pl (si h)
 |cvI=>exact pl (kJ h)
 |Jb=>exact pl (aY h)
 |He=>exact pl (aX h)
 |OL=>exact pl (ae h)
 |Lh=>exact pl (af h)
 |sub=>exact pl (kO h)
 |M8=>exact pl (aj h)
 |fa=>exact pl (sZ h)
 |fld=>exact pl (kL h)
 |ia=>exact pl (sa h)
 |ix=>exact pl (sb h)
 |ext=>exact pl (kK h)
 |len=>exact pl (kM h)
 |lens=>exact pl (aZ h)
 |app=>exact pl (kE h)
 |M4=>exact pl (aW h)
 |cpy=>exact pl (kI h)
 |mm=>exact pl (nj h)
 |mmk=>exact pl (kN h)
 |M5=>exact pl (aa h)
 |Li=>exact pl (ah h)
 |M6=>exact pl (ag h)
 |bad=>simp [ev] at h
 |drop ds=>exact pl ⟨_,by simp only [YOp.er,Lv.ev,fU],AU.DS _ _,h⟩
 |Av ns=>exact pl ⟨_,by simp only [YOp.er,Lv.ev,aG],AU.J4 _ _,h⟩
 |call d g fs hf args=>
  simp only [ev] at h;split at h
  .rename_i es he;obtain⟨S1,vs,cs,outs,S',h1,h2,h3,h4,h5⟩:=cL (Al.of hf) h;refine⟨S',h4,h5,fun N hN=>.inr ⟨d,g.x,es.map (En.fg R),S1,vs,_,cs,outs,_,?_,h1,h2,h3,hN⟩⟩;simp only [YOp.er,Lv.CN,RN he]
  .cases h
 |CJ d x ms args=>
  simp only [ev] at h;split at h
  .rename_i n caps es h0 he;split at h
   .rename_i g hg;split at h
    .rename_i hm;obtain⟨S1,vs,cs,outs,S',h1,h2,h3,h4,h5⟩:=cL (Al.nil _) h;refine⟨S',h4,h5,fun N hN=>.inr ⟨d,g.x,_,S1,vs,_,cs,outs,_,?_,h1,h2,h3,hN⟩⟩;have hx:xr R n=g.x:=by unfold xr;rw [hg]
     simp only [YOp.er,Lv.CN,B7 h0,RN he,AB.fg,hx];rw [if_pos (by rw [g.ms,hm])];simp only [List.map_append,List.map_map,Option.some.injEq,Prod.mk.injEq,true_and,List.append_cancel_left_eq];apply List.map_congr_left;intro c _;simp only [Function.comp,En.fg,List.map_cons,List.map_nil,RX]
    .cases h
   .cases h
  .cases h
end
end Y
end Lv
namespace Lv
open Go (IntKind BinOp UnOp)
namespace Y
section
variable{R:List GF}{ρ:Type}
def QU.er:QU R->KT
 |.nil=>.nil
 |.op i g sf o rest=>.op i g sf o.er rest.er
 |.dr ds rest=>.dr ds rest.er
 |.nl ns rest=>.nl (ns.map fun p=>(p.1,p.2.size)) rest.er
 |.both _ a b=>.both a.er b.er
def DQ.er:DQ R->Hj
 |.skip=>.skip
 |.region ops _=>.region (ops.map fun p=>(p.1,p.2.er)) []
 |.A8 r _=>.A8 r.er []
 |.seq a b=>.seq a.er b.er
 |.join _ a b=>.seq a.er b.er
 |.cond c _ _ t e=>.cond c [] [] t.er e.er
 |.block id b=>.block id b.er
 |.loop _ b=>.loop b.er
 |.exit id=>.exit id
 |.ret=>.ret
 |.scope b=>.scope b.er
theorem xG(o:YOp R):o.er.Ue=o.Ue:=by cases o <;> rfl
theorem W8{o:YOp R}{S:St}{K:St->Option ρ}{r:ρ}(h:Fv o S K=some r):∃S',Lv.Fv o.er (S.fg R)=some (S'.fg R)/\AU S S'/\K S'=some r:=by
 unfold Fv at h;unfold Lv.Fv;rw [xG];split at h
 .rename_i d hd;obtain⟨S',h1,h2,h3⟩:=So (R:=R) h;rw [hd];exact⟨S',h1,h2,h3⟩
 .rename_i hd;rw [hd];exact⟨S,rfl,AU.refl _,h⟩
theorem s5{s:Nat}{e x:Ent}:∀{l:List (Nat×Ent)},get l s=some x->e.fg R=x.fg R->fgE R (reE s e l)=fgE R l
 | [],h,_=>rfl
 |(k,y)::l,h,he=>by
  simp only [get] at h;simp only [reE];cases hb:Nat.beq k s with
  |true=>rw [hb] at h;cases h;simp only [fgE,List.map_cons,he]
  |false=>
   rw [hb] at h;have:=s5 (l:=l) h he;simp only [fgE,List.map_cons] at this ⊢;rw [this]
theorem nT{s:Nat}{e:Ent}:∀{l:List (Nat×Ent)} {k:Nat} {y:Ent},get (reE s e l) k=some y->y=e\/get l k=some y
 | [],k,y,h=>.inr h
 |(j,x)::l,k,y,h=>by
  simp only [reE] at h;cases hb:Nat.beq j s with
  |true=>
   rw [hb] at h;simp only [get] at h ⊢;cases hk:Nat.beq j k with
   |true=>rw [hk] at h;cases h;exact .inl rfl
   |false=>rw [hk] at h;exact .inr h
  |false=>
   rw [hb] at h;simp only [get] at h ⊢;cases hk:Nat.beq j k with
   |true=>rw [hk] at h;exact .inr h
   |false=>rw [hk] at h;exact nT h
theorem xW{S:St}{s:Nat}{b:Bool}{v:Nat}(h:get S.tm s=some ⟨.one,[.t (.bool b)],v⟩):(S.lit s b).fg R=S.fg R/\AU S (S.lit s b):=by
 refine⟨?_,by simp [St.lit],fun k e he hv=>?_,fun _ _ h _=>h,rfl⟩
 .simp only [St.fg,St.lit];have:=s5 (R:=R) (e:=⟨.one,[.t (.bool b)],S.nv⟩) h rfl;rw [this]
 .rcases nT he with rfl|h1
  .exact(Nat.lt_irrefl _ hv).elim
  .exact h1
def Gd(R:List GF)(g:Option (Nat×Bool))(o:YOp R)(S:Lv.St)(N:Lv.St->Prop):Prop:=
 ∃b,Lv.wanted S g=some b/\((b=true/\opK D1 o.er S N)\/(b=false/\∃S',Lv.Fv o.er S=some S'/\N S'))
theorem Yr{S:St}{s:Nat}{w b:Bool}{v:Nat}(h:get S.tm s=some ⟨.one,[.t (.bool b)],v⟩):Lv.wanted (S.fg R) (some (s,w))=some (b==w):=by
 simp only [Lv.wanted,Pc,h];rfl
theorem iW{S:St}{s:Nat}{w:Bool}{v:Nat}(h:get S.tm s=some ⟨.one,[.und],v⟩):Lv.wanted (S.fg R) (some (s,w))=some false:=by
 simp only [Lv.wanted,Pc,h];rfl
theorem MR{S:St}{s:Nat}{w b:Bool}{v:Nat}{o:YOp R}{f:Option ρ}{K:St->Option ρ}{r:ρ}{P:Lv.St->(Lv.St->Prop)->Prop}(hg:get S.tm s=some ⟨.one,[.t (.bool b)],v⟩)(x:Bool)(hx:x=(b==w))
 (h:Wl x o (S.lit s b) f K=some r) (hf:f=some r->∃S',AU (S.lit s b) S'/\K S'=some r/\∀N:Lv.St->Prop,N (S'.fg R)->P ((S.lit s b).fg R) N) :
 ∃S',AU S S'/\K S'=some r/\∀N:Lv.St->Prop,N (S'.fg R)->∃b,Lv.wanted (S.fg R) (some (s,w))=some b/\((b=true/\P (S.fg R) N)\/(b=false/\∃S',Lv.Fv o.er (S.fg R)=some S'/\N S')):=by
 obtain⟨hl,hk⟩:=xW (R:=R) hg;cases x with
 |true=>
  obtain⟨S',h1,h2,h3⟩:=hf h;refine⟨S',hk.trans h1,h2,fun N hN=>⟨_,Yr hg,.inl ⟨hx.symm,?_⟩⟩⟩;have:=h3 N hN
  rwa [hl] at this
 |false=>
  obtain⟨S',h1,h2,h3⟩:=W8 (R:=R) h;refine⟨S',hk.trans h2,h3,fun N hN=>⟨_,Yr hg,.inr ⟨hx.symm,_,?_,hN⟩⟩⟩
  rwa [hl] at h1
theorem xL{g:Option (Nat×Bool)}{o:YOp R}{S:St}{K:St->Option ρ}{r:ρ}(h:evg g o S K=some r) :
 ∃S',AU S S'/\K S'=some r/\∀N:Lv.St->Prop,N (S'.fg R)->Gd R g o (S.fg R) N:=by
 unfold evg at h;split at h
 .obtain⟨S',h1,h2,h3⟩:=nP h;exact⟨S',h1,h2,fun N hN=>⟨true,rfl,.inl ⟨rfl,h3 N hN⟩⟩⟩
 .rename_i s w;split at h
  .rename_i b v hg;rcases lF h with ⟨rfl,h'⟩|⟨rfl,h'⟩
   .exact MR (P:=opK D1 o.er) hg w (by cases w <;> rfl) h' fun hf=>nP hf
   .exact MR (P:=opK D1 o.er) hg (!w) (by cases w <;> rfl) h' fun hf=>nP hf
  .rename_i v hg;obtain⟨S',h1,h2,h3⟩:=W8 (R:=R) h;exact⟨S',h2,h3,fun N hN=>⟨false,iW hg,.inr ⟨rfl,_,h1,hN⟩⟩⟩
  .cases h
theorem rU:∀{ops:List (Option (Nat×Bool)×YOp R)} {S:St} {K:St->Option ρ} {r:ρ},evs ops S K=some r ->
 ∃S',AU S S'/\K S'=some r/\∀N:Lv.St->Prop,N (S'.fg R)->kQ D1 (ops.map fun p=>(p.1,p.2.er)) (S.fg R) N
 | [],S,K,r,h=>⟨S,AU.refl _,h,fun N hN=>hN⟩
 |(g,o)::ops,S,K,r,h=>by
  have h':evg g o S (fun S'=>evs ops S' K)=some r:=by
   simp only [evs] at h;split at h
   .exact h
   .simpa only [force_eq] using h
  obtain⟨S1,h1,h2,h3⟩:=xL h';obtain⟨S2,h4,h5,h6⟩:=rU h2;exact⟨S2,h1.trans h4,h5,fun N hN=>h3 _ (h6 N hN)⟩
theorem yw(o:YOp R):o.er.wr=o.wr.map (YO.er R):=by cases o <;> rfl
theorem QW(l:AB):∀(ks:List PK) (es:List En),Lv.ED (AB.fg R l) (ks.map PK.md) (es.map (En.fg R))=ED l ks es
 | [],es=>by cases es <;> rfl
 |k::ks,[]=>rfl
 |k::ks,e::es=>by
  simp only [List.map_cons,Lv.ED,ED,Yw,En.fg,List.all_map,Function.comp_def,pW,QW l ks es]
theorem uu{S:St}{l:AB}(h:S.Hf l=true):(S.fg R).Hf (AB.fg R l)=true:=by
 unfold St.Hf at h;split at h
 .simp only [AB.fg,Lv.St.Hf,Iv,Option.isSome_map];exact h
 .rfl
 .rename_i s cs;cases cs <;> simp_all [AB.fg,Lv.St.Hf]
 .simp only [AB.fg,Lv.St.Hf,Ec];split at h
  .rename_i x hx;rw [hx];simp only [Option.map_some,AB.fg,VJ];exact h
  .cases h
 .rfl
 .rfl
 .cases h
theorem cM{o:YOp R}{S:Lv.St}(h1:∀d g fs hf args,o≠.call d g fs hf args)(h2:∀d x ms args,o≠.CJ d x ms args):Lv.CN o.er S=none:=by
 cases o <;> first|rfl|(exact(h1 _ _ _ _ _ rfl).elim)|(exact(h2 _ _ _ _ rfl).elim)
theorem tE{o:YOp R}{S:St}{l:AB}(h:NM o S l=true):Lv.NM o.er (S.fg R) (AB.fg R l)=true:=by
 unfold NM at h;simp only [Bool.and_eq_true] at h;obtain⟨h1,h2⟩:=h;unfold Lv.NM;rw [uu h1,Bool.true_and];have hr2:(AB.fg R l).AZ=l.AZ:=E0 l;have gen:(∀d g fs hf args,o≠.call d g fs hf args)->(∀d x ms args,o≠.CJ d x ms args) ->
  (match o.wr with|some y=>(match S.one y with|some lt=>l.AZ.isNone||!(match l.AZ with|some r=>isR lt.AZ r|none=>lt.AZ.isNone)|none=>false)|none=>true)=true ->
  (match Lv.CN o.er (S.fg R) with
  |some (_,f,es)=>Lv.ED (AB.fg R l) (B5 f) es
  |none=>match o.er.wr with
   |some y=>(match (S.fg R).one y with|some lt=>(AB.fg R l).AZ.isNone||decide ((AB.fg R l).AZ≠lt.AZ)|none=>true)
   |none=>true)=true:=by
  intro n1 n2 h;rw [cM n1 n2,yw];cases hy:o.wr with
  |none=>rfl
  |some y=>
   rw [hy] at h;dsimp only at h;cases ho:S.one y with
   |none=>rw [ho] at h;cases h
   |some lt=>
    rw [ho] at h;dsimp only at h ⊢;simp only [Option.map_some,B7 ho];rw [hr2,E0,decide_not,<-s9];exact h
 cases o with
 |st n x v=>
  dsimp only at h2;have h4:Lv.names (AB.fg R l)=names l:=Wa l;generalize AB.fg R l=L at h4 hr2 ⊢;cases ho:S.one x with
  |none=>rw [ho] at h2;cases h2
  |some lp=>
   rw [ho] at h2;have h3:=B7 (R:=R) ho;simp only [YOp.er,h3];cases lp with
   |bp id o=>
    dsimp only at h2;show (!(Lv.names L).contains id)=true;rw [h4,List.contains_eq_mem,<-Mp];exact h2
   |ep r0 i j=>
    dsimp only at h2;show decide (L.AZ≠some r0)=true;rw [hr2];rw [Q2] at h2;simpa using h2
   |_=>cases h2
 |call d g fs hf args=>
  dsimp only at h2;cases hr:S.rds args with
  |none=>rw [hr] at h2;cases h2
  |some es=>
   rw [hr] at h2;have h3:=QW (R:=R) l g.ps es;generalize AB.fg R l=L at h3 ⊢;simp only [YOp.er,Lv.CN,RN hr,g.ms];rw [h3];exact h2
 |CJ d x ms args=>
  dsimp only at h2;split at h2
  .rename_i n caps es h4 h5;split at h2
   .rename_i g h6;split at h2
    .rename_i h7;have hx:xr R n=g.x:=by unfold xr;rw [h6]
     have h8:=QW (R:=R) l g.ps (es++caps.map fun l=>⟨.one,[l.leaf]⟩);rw [List.map_append,List.map_map] at h8;rw [show (En.fg R∘fun l=>(⟨.one,[l.leaf]⟩:En))=((fun l=>(⟨Sh.one,[l]⟩:Lv.Ent))∘Cap.fg) from by funext c;simp only [Function.comp,En.fg,List.map_cons,List.map_nil,RX],<-List.map_map] at h8;have h9:=B7 (R:=R) h4;simp only [AB.fg,hx] at h9;generalize AB.fg R l=L at h8 ⊢;simp only [YOp.er,Lv.CN,h9,RN h5];rw [if_pos (by rw [g.ms,h7])];dsimp only;rw [g.ms,h8];exact h2
    .cases h2
   .cases h2
  .cases h2
 |_=>exact gen (by intros;simp) (by intros;simp) h2
theorem gz{o:YOp R}{S:St}:∀{sf:List Nat},D7 o S sf=true->Lv.D7 o.er (S.fg R) sf=true
 | [],h=>rfl
 |s::sf,h=>by
  simp only [D7,Bool.and_eq_true] at h;obtain⟨h1,h2⟩:=h;simp only [Lv.D7,Bool.and_eq_true];refine⟨?_,gz h2⟩;split at h1
  .rename_i l hl;have:=B7 (R:=R) hl;simp only [YO.er] at this;rw [this];exact tE h1
  .cases h1
theorem Zp:∀{a b:List (Option Nat)},oo a b=true->a=b
 | [],[],_=>rfl
 |none::r,none::r',h=>by simp only [oo] at h;rw [Zp h]
 |some a::r,some b::r',h=>by simp only [oo,Bool.and_eq_true] at h;rw [beq_true h.1,Zp h.2]
 | [],_::_,h=>by cases h
 |none::_,[],h=>by cases h
 |some _::_,[],h=>by cases h
 |none::_,some _::_,h=>by cases h
 |some _::_,none::_,h=>by cases h
theorem uk{a b:Sh}(h:xJ a b=true):a=b:=by
 cases a <;> cases b <;> first|rfl|(cases h;done)|(simp only [xJ] at h;first|rw [Zp h]|rw [beq_true h])
theorem fY:∀{a b:Option (Nat×Nat)},nM a b=true->a=b
 |none,none,_=>rfl
 |some (a,b),some (a',b'),h=>by simp only [nM,Bool.and_eq_true] at h;rw [beq_true h.1,beq_true h.2]
 |none,some _,h=>by cases h
 |some _,none,h=>by cases h
theorem RO:∀{a b:Ao},Ao.is a b=true->a=b
 |.tmp s c,.tmp s' c',h=>by
  simp only [Ao.is] at h;split at h
  .rename_i h1;rw [beq_true h1,beq_true h]
  .cases h
 |.cell s c,.cell s' c',h=>by
  simp only [Ao.is] at h;split at h
  .rename_i h1;rw [beq_true h1,beq_true h]
  .cases h
 |.tmp _ _,.cell _ _,h=>by cases h
 |.cell _ _,.tmp _ _,h=>by cases h
theorem fW{a b:Src}(h:nL a b=true):a=b:=by
 cases a <;> cases b <;> simp only [nL,Bool.and_eq_true] at h <;> first|(cases h;done)|rw [RO h.1,fY h.2]|rw [beq_true h]
theorem nK:∀{a b:List (Nat×Nat)},uj a b=true->a=b
 | [],[],_=>rfl
 |(a,b)::r,(a',b')::r',h=>by simp only [uj,Bool.and_eq_true] at h;rw [beq_true h.1.1,beq_true h.1.2,nK h.2]
 | [],_::_,h=>by cases h
 |_::_,[],h=>by cases h
theorem LZ{γ:Type}{b:Bool}{x:Option γ}{r:γ}(h:ifB b x=some r):b=true/\x=some r:=by
 cases b with
 |true=>exact⟨rfl,h⟩
 |false=>cases h
theorem ik{x y:U}{X:Option ρ}{r:ρ}(h:agU x y X=some r):x=y/\X=some r:=by
 cases x <;> cases y <;> simp only [agU] at h <;> first|(cases h;done)|exact⟨rfl,h⟩|skip
 .split at h
  .rename_i hk;obtain⟨rfl,h1⟩:=K1 h;subst hk;exact⟨rfl,h1⟩
  .cases h
 .obtain⟨rfl,h1⟩:=K1 h;exact⟨rfl,h1⟩
 .obtain⟨rfl,h1⟩:=K1 h;exact⟨rfl,h1⟩
 .obtain⟨rfl,h1⟩:=K1 h;exact⟨rfl,h1⟩
 .split at h
  .rename_i hk;subst hk;obtain⟨rfl,h1⟩:=K1 h;exact⟨rfl,h1⟩
  .cases h
 .obtain⟨rfl,h1⟩:=K1 h;exact⟨rfl,h1⟩
theorem lA:∀{x y:List U} {X:Option ρ} {r:ρ},wW x y X=some r->x=y/\X=some r
 | [],[],X,r,h=>⟨rfl,h⟩
 |a::x,b::y,X,r,h=>by
  obtain⟨rfl,h1⟩:=ik h;obtain⟨rfl,h2⟩:=lA h1;exact⟨rfl,h2⟩
 | [],_::_,_,_,h=>by cases h
 |_::_,[],_,_,h=>by cases h
theorem pw{c c':C}{xs:List c.D}{ys:List c'.D}{X:Option ρ}{r:ρ}(h:(if h:c'=c then eqv xs (h▸ys) X else none)=some r):(⟨c,xs⟩:(c:C)×List c.D)=⟨c',ys⟩/\X=some r:=by
 split at h
 .rename_i hk;subst hk;obtain⟨rfl,h1⟩:=K1 h;exact⟨rfl,h1⟩
 .cases h
theorem tz:∀{x y:AB} {X:Option ρ} {r:ρ},yQ x y X=some r->x=y/\X=some r
 |.t x,.t y,X,r,h=>by obtain⟨rfl,h1⟩:=ik h;exact⟨rfl,h1⟩
 |.und,.und,X,r,h=>⟨rfl,h⟩
 |.ow x,.ow y,X,r,h=>by obtain⟨rfl,h1⟩:=ik h;exact⟨rfl,h1⟩
 |.owh c xs hs,.owh c' ys hs',X,r,h=>by
  obtain⟨h1,h3⟩:=LZ h;obtain⟨h2,h4⟩:=pw h3;cases h2;rw [nK h1];exact⟨rfl,h4⟩
 |.al r0 s,.al r' s',X,r,h=>by
  obtain⟨h1,h⟩:=LZ h;simp only [Bool.and_eq_true] at h1;rw [RO h1.1,fY h1.2];exact⟨rfl,h⟩
 |.ep r0 i j,.ep r' i' j',X,r,h=>by
  obtain⟨h1,h⟩:=LZ h;simp only [Bool.and_eq_true] at h1;obtain⟨rfl,h4⟩:=K1 h;rw [RO h1.1,beq_true h1.2];exact⟨rfl,h4⟩
 |.vw s c xs,.vw s' c' ys,X,r,h=>by
  obtain⟨h1,h3⟩:=LZ h;obtain⟨h2,h4⟩:=pw h3;cases h2;rw [fW h1];exact⟨rfl,h4⟩
 |.vp s cs,.vp s' cs',X,r,h=>by
  obtain⟨h1,h⟩:=LZ h;obtain⟨rfl,h4⟩:=lA h;rw [fW h1];exact⟨rfl,h4⟩
 |.bp a o,.bp a' o',X,r,h=>by
  obtain⟨h1,h⟩:=LZ h;simp only [Bool.and_eq_true] at h1;rw [beq_true h1.1,beq_true h1.2];exact⟨rfl,h⟩
 |.fn _ _,.fn _ _,_,_,h=>by cases h
 |.t _,.und,_,_,h=>by cases h
 |.t _,.ow _,_,_,h=>by cases h
 |.t _,.owh _ _ _,_,_,h=>by cases h
 |.t _,.al _ _,_,_,h=>by cases h
 |.t _,.ep _ _ _,_,_,h=>by cases h
 |.t _,.vw _ _ _,_,_,h=>by cases h
 |.t _,.vp _ _,_,_,h=>by cases h
 |.t _,.bp _ _,_,_,h=>by cases h
 |.t _,.fn _ _,_,_,h=>by cases h
 |.und,.t _,_,_,h=>by cases h
 |.und,.ow _,_,_,h=>by cases h
 |.und,.owh _ _ _,_,_,h=>by cases h
 |.und,.al _ _,_,_,h=>by cases h
 |.und,.ep _ _ _,_,_,h=>by cases h
 |.und,.vw _ _ _,_,_,h=>by cases h
 |.und,.vp _ _,_,_,h=>by cases h
 |.und,.bp _ _,_,_,h=>by cases h
 |.und,.fn _ _,_,_,h=>by cases h
 |.ow _,.t _,_,_,h=>by cases h
 |.ow _,.und,_,_,h=>by cases h
 |.ow _,.owh _ _ _,_,_,h=>by cases h
 |.ow _,.al _ _,_,_,h=>by cases h
 |.ow _,.ep _ _ _,_,_,h=>by cases h
 |.ow _,.vw _ _ _,_,_,h=>by cases h
 |.ow _,.vp _ _,_,_,h=>by cases h
 |.ow _,.bp _ _,_,_,h=>by cases h
 |.ow _,.fn _ _,_,_,h=>by cases h
 |.owh _ _ _,.t _,_,_,h=>by cases h
 |.owh _ _ _,.und,_,_,h=>by cases h
 |.owh _ _ _,.ow _,_,_,h=>by cases h
 |.owh _ _ _,.al _ _,_,_,h=>by cases h
 |.owh _ _ _,.ep _ _ _,_,_,h=>by cases h
 |.owh _ _ _,.vw _ _ _,_,_,h=>by cases h
 |.owh _ _ _,.vp _ _,_,_,h=>by cases h
 |.owh _ _ _,.bp _ _,_,_,h=>by cases h
 |.owh _ _ _,.fn _ _,_,_,h=>by cases h
 |.al _ _,.t _,_,_,h=>by cases h
 |.al _ _,.und,_,_,h=>by cases h
 |.al _ _,.ow _,_,_,h=>by cases h
 |.al _ _,.owh _ _ _,_,_,h=>by cases h
 |.al _ _,.ep _ _ _,_,_,h=>by cases h
 |.al _ _,.vw _ _ _,_,_,h=>by cases h
 |.al _ _,.vp _ _,_,_,h=>by cases h
 |.al _ _,.bp _ _,_,_,h=>by cases h
 |.al _ _,.fn _ _,_,_,h=>by cases h
 |.ep _ _ _,.t _,_,_,h=>by cases h
 |.ep _ _ _,.und,_,_,h=>by cases h
 |.ep _ _ _,.ow _,_,_,h=>by cases h
 |.ep _ _ _,.owh _ _ _,_,_,h=>by cases h
 |.ep _ _ _,.al _ _,_,_,h=>by cases h
 |.ep _ _ _,.vw _ _ _,_,_,h=>by cases h
 |.ep _ _ _,.vp _ _,_,_,h=>by cases h
 |.ep _ _ _,.bp _ _,_,_,h=>by cases h
 |.ep _ _ _,.fn _ _,_,_,h=>by cases h
 |.vw _ _ _,.t _,_,_,h=>by cases h
 |.vw _ _ _,.und,_,_,h=>by cases h
 |.vw _ _ _,.ow _,_,_,h=>by cases h
 |.vw _ _ _,.owh _ _ _,_,_,h=>by cases h
 |.vw _ _ _,.al _ _,_,_,h=>by cases h
 |.vw _ _ _,.ep _ _ _,_,_,h=>by cases h
 |.vw _ _ _,.vp _ _,_,_,h=>by cases h
 |.vw _ _ _,.bp _ _,_,_,h=>by cases h
 |.vw _ _ _,.fn _ _,_,_,h=>by cases h
 |.vp _ _,.t _,_,_,h=>by cases h
 |.vp _ _,.und,_,_,h=>by cases h
 |.vp _ _,.ow _,_,_,h=>by cases h
 |.vp _ _,.owh _ _ _,_,_,h=>by cases h
 |.vp _ _,.al _ _,_,_,h=>by cases h
 |.vp _ _,.ep _ _ _,_,_,h=>by cases h
 |.vp _ _,.vw _ _ _,_,_,h=>by cases h
 |.vp _ _,.bp _ _,_,_,h=>by cases h
 |.vp _ _,.fn _ _,_,_,h=>by cases h
 |.bp _ _,.t _,_,_,h=>by cases h
 |.bp _ _,.und,_,_,h=>by cases h
 |.bp _ _,.ow _,_,_,h=>by cases h
 |.bp _ _,.owh _ _ _,_,_,h=>by cases h
 |.bp _ _,.al _ _,_,_,h=>by cases h
 |.bp _ _,.ep _ _ _,_,_,h=>by cases h
 |.bp _ _,.vw _ _ _,_,_,h=>by cases h
 |.bp _ _,.vp _ _,_,_,h=>by cases h
 |.bp _ _,.fn _ _,_,_,h=>by cases h
 |.fn _ _,.t _,_,_,h=>by cases h
 |.fn _ _,.und,_,_,h=>by cases h
 |.fn _ _,.ow _,_,_,h=>by cases h
 |.fn _ _,.owh _ _ _,_,_,h=>by cases h
 |.fn _ _,.al _ _,_,_,h=>by cases h
 |.fn _ _,.ep _ _ _,_,_,h=>by cases h
 |.fn _ _,.vw _ _ _,_,_,h=>by cases h
 |.fn _ _,.vp _ _,_,_,h=>by cases h
 |.fn _ _,.bp _ _,_,_,h=>by cases h
theorem Yz:∀{x y:List AB} {X:Option ρ} {r:ρ},uA x y X=some r->x=y/\X=some r
 | [],[],X,r,h=>⟨rfl,h⟩
 |a::x,b::y,X,r,h=>by
  obtain⟨rfl,h1⟩:=tz h;obtain⟨rfl,h2⟩:=Yz h1;exact⟨rfl,h2⟩
 | [],_::_,_,_,h=>by cases h
 |_::_,[],_,_,h=>by cases h
theorem SM{a b:Nat}(h:Nat.blt a b=true):a<b:=by simp [Nat.blt] at h;omega
theorem ij{v:Nat}{P:Nat->Ent->Prop}(hP:∀k e e',P k e->P k e'->e=e'):∀{x y:List (Nat×Ent)} {X:Option ρ} {r:ρ},(∀k e,(k,e)∈x->e.ver<v->P k e)->(∀k e,(k,e)∈y->e.ver<v->P k e)->agE v x y X=some r->fgE R x=fgE R y/\X=some r
 | [],[],X,r,_,_,h=>⟨rfl,h⟩
 |(k,e)::x,(k',e')::y,X,r,hx,hy,h=>by
  simp only [agE] at h;split at h
  .rename_i hk;have:=beq_true hk;subst this;split at h
   .rename_i hv;simp only [Bool.and_eq_true] at hv;have:=hP k e e' (hx k e (List.mem_cons_self ..) (SM hv.1)) (hy k e' (List.mem_cons_self ..) (SM hv.2));subst this;obtain⟨h1,h2⟩:=ij hP (fun k e hm=>hx k e (List.mem_cons_of_mem _ hm)) (fun k e hm=>hy k e (List.mem_cons_of_mem _ hm)) h;exact⟨by unfold fgE at h1 ⊢;rw [List.map_cons,List.map_cons,h1],h2⟩
   .obtain⟨h3,h⟩:=LZ h;obtain⟨h4,h⟩:=Yz h;obtain⟨h1,h2⟩:=ij hP (fun k e hm=>hx k e (List.mem_cons_of_mem _ hm)) (fun k e hm=>hy k e (List.mem_cons_of_mem _ hm)) h;exact⟨by unfold fgE at h1 ⊢;rw [List.map_cons,List.map_cons,h1];simp only [Ent.fg,uk h3,h4],h2⟩
  .cases h
 | [],_::_,_,_,_,_,h=>by cases h
 |_::_,[],_,_,_,_,h=>by cases h
theorem ig{v:Nat}{P:Nat->Bx->Prop}(hP:∀k e e',P k e->P k e'->e=e'):∀{x y:List (Nat×Bx)} {X:Option ρ} {r:ρ},(∀k e,(k,e)∈x->e.ver<v->P k e)->(∀k e,(k,e)∈y->e.ver<v->P k e)->agB v x y X=some r->fgB R x=fgB R y/\X=some r
 | [],[],X,r,_,_,h=>⟨rfl,h⟩
 |(k,e)::x,(k',e')::y,X,r,hx,hy,h=>by
  simp only [agB] at h;split at h
  .rename_i hk;have:=beq_true hk;subst this;split at h
   .rename_i hv;simp only [Bool.and_eq_true] at hv;have:=hP k e e' (hx k e (List.mem_cons_self ..) (SM hv.1)) (hy k e' (List.mem_cons_self ..) (SM hv.2));subst this;obtain⟨h1,h2⟩:=ig hP (fun k e hm=>hx k e (List.mem_cons_of_mem _ hm)) (fun k e hm=>hy k e (List.mem_cons_of_mem _ hm)) h;exact⟨by unfold fgB at h1 ⊢;rw [List.map_cons,List.map_cons,h1],h2⟩
   .obtain⟨h4,h⟩:=Yz h;obtain⟨h1,h2⟩:=ig hP (fun k e hm=>hx k e (List.mem_cons_of_mem _ hm)) (fun k e hm=>hy k e (List.mem_cons_of_mem _ hm)) h;exact⟨by unfold fgB at h1 ⊢;rw [List.map_cons,List.map_cons,h1,h4],h2⟩
  .cases h
 | [],_::_,_,_,_,_,h=>by cases h
 |_::_,[],_,_,_,_,h=>by cases h
theorem fx{α:Type}{k:Nat}{e:α}:∀{l:List (Nat×α)},(k,e)∈l->Rt k l=true
 |(j,x)::l,h=>by
  simp only [Rt];cases hb:Nat.beq j k with
  |true=>rfl
  |false=>
   rcases List.mem_cons.1 h with h|h
   .cases h;rw [Nat.beq_refl] at hb;cases hb
   .exact fx h
theorem I7{α:Type}{k:Nat}{e:α}:∀{l:List (Nat×α)},Wc l=true->(k,e)∈l->get l k=some e
 |(j,x)::l,hd,h=>by
  simp only [Wc,Bool.and_eq_true,Bool.not_eq_true'] at hd;simp only [get];rcases List.mem_cons.1 h with h|h
  .cases h;rw [Nat.beq_refl]
  .cases hb:Nat.beq j k with
   |true=>rw [beq_true hb,fx h] at hd;cases hd.1
   |false=>exact I7 hd.2 h
theorem wV{S A B:St}{X:Option ρ}{r:ρ}(hA:AU S A)(hB:AU S B)(h:agS S.nv A B X=some r):A.fg R=B.fg R/\X=some r:=by
 obtain⟨h1,h⟩:=LZ h;simp only [Bool.and_eq_true] at h1;obtain⟨⟨⟨n1,n2⟩,n3⟩,n4⟩:=h1;obtain⟨e1,h⟩:=ij (R:=R) (P:=fun k e=>get S.tm k=some e) (fun k e e' h h'=>by rw [h] at h';exact Option.some.inj h') (fun k e hm hv=>hA.tm k e (I7 n1 hm) hv) (fun k e hm hv=>hB.tm k e (I7 n2 hm) hv) h;obtain⟨e2,h⟩:=ig (R:=R) (P:=fun k e=>get S.bx k=some e) (fun k e e' h h'=>by rw [h] at h';exact Option.some.inj h') (fun k e hm hv=>hA.bx k e (I7 n3 hm) hv) (fun k e hm hv=>hB.bx k e (I7 n4 hm) hv) h;exact⟨by simp only [St.fg,e1,e2,hA.pin,hB.pin],h⟩
theorem Qs:∀{x:QU R} {S:St} {K:St->Option ρ} {r:ρ},evr x S K=some r ->
 ∃S',AU S S'/\K S'=some r/\∀N:Lv.St->Prop,N (S'.fg R)->runK D1 x.er (S.fg R) N
 |.nil,S,K,r,h=>⟨S,AU.refl _,h,fun N hN=>hN⟩
 |.dr ds x,S,K,r,h=>by
  obtain⟨S',h1,h2,h3⟩:=Qs (x:=x) h;refine⟨S',(AU.DS _ _).trans h1,h2,fun N hN=>?_⟩;have:=h3 N hN;rw [fU] at this;exact this
 |.nl ns x,S,K,r,h=>by
  obtain⟨S',h1,h2,h3⟩:=Qs (x:=x) h;refine⟨S',(AU.J4 _ _).trans h1,h2,fun N hN=>?_⟩;have:=h3 N hN;rw [aG] at this;exact this
 |.both n a b,S,K,r,h=>by
  have h:evr a S (fun A=>evr b S fun B=>agS S.nv A B (K A))=some r:=by
   cases n with
   |zero=>exact h
   |succ n=>simpa only [evr,uD] using h
  obtain⟨A,a1,a2,a3⟩:=Qs (x:=a) (K:=fun A=>evr b S fun B=>agS S.nv A B (K A)) h;obtain⟨B,b1,b2,b3⟩:=Qs (x:=b) (K:=fun B=>agS S.nv A B (K A)) a2;obtain⟨e,h2⟩:=wV (R:=R) a1 b1 b2;exact⟨A,a1,h2,fun N hN=>⟨a3 N hN,b3 N (e▸hN)⟩⟩
 |.op i g sf o x,S,K,r,h=>by
  have safe:∀{S:St},(if D7 o S sf=true then ev o S fun S'=>S'.force fun S'=>evr x S' K else none)=some r ->
   ∃S',AU S S'/\evr x S' K=some r/\∀N:Lv.St->Prop,N (S'.fg R)->(Lv.D7 o.er (S.fg R) sf=true/\opK D1 o.er (S.fg R) N):=by
   intro S h;split at h
   .rename_i hs;obtain⟨S',h1,h2,h3⟩:=nP h;rw [force_eq] at h2;exact⟨S',h1,h2,fun N hN=>⟨gz hs,h3 N hN⟩⟩
   .cases h
  have key:∃S',AU S S'/\evr x S' K=some r/\∀N:Lv.St->Prop,N (S'.fg R)->∃b,Lv.wanted (S.fg R) g=some b/\((b=true/\Lv.D7 o.er (S.fg R) sf=true/\opK D1 o.er (S.fg R) N)\/(b=false/\∃S',Lv.Fv o.er (S.fg R)=some S'/\N S')):=by
   simp only [evr,xO] at h;split at h
   .obtain⟨S',h1,h2,h3⟩:=safe h;exact⟨S',h1,h2,fun N hN=>⟨true,rfl,.inl ⟨rfl,h3 N hN⟩⟩⟩
   .rename_i s w;split at h
    .rename_i b v hg;rcases lF h with ⟨rfl,h'⟩|⟨rfl,h'⟩
     .refine MR (K:=fun S'=>evr x S' K) (P:=fun S N=>Lv.D7 o.er S sf=true/\opK D1 o.er S N) hg w (by cases w <;> rfl) (f:=if D7 o (S.lit s true) sf=true then ev o (S.lit s true) fun S'=>S'.force fun S'=>evr x S' K else none) ?_ fun hf=>safe hf
      simpa only [force_eq] using h'
     .refine MR (K:=fun S'=>evr x S' K) (P:=fun S N=>Lv.D7 o.er S sf=true/\opK D1 o.er S N) hg (!w) (by cases w <;> rfl) (f:=if D7 o (S.lit s false) sf=true then ev o (S.lit s false) fun S'=>S'.force fun S'=>evr x S' K else none) ?_ fun hf=>safe hf
      simpa only [force_eq] using h'
    .rename_i v hg;simp only [force_eq] at h;obtain⟨S',h1,h2,h3⟩:=W8 (R:=R) h;exact⟨S',h2,h3,fun N hN=>⟨false,iW hg,.inr ⟨rfl,_,h1,hN⟩⟩⟩
    .cases h
  obtain⟨S1,h1,h2,h3⟩:=key;obtain⟨S2,h4,h5,h6⟩:=Qs (x:=x) h2;exact⟨S2,h1.trans h4,h5,fun N hN=>h3 _ (h6 N hN)⟩
end
end Y
end Lv
namespace Lv
open Go (IntKind BinOp UnOp)
namespace Y
section
variable{R:List GF}{ρ:Type}
theorem sF{s:Option Src}{l:AB}{x:U}(h:sE s l=some x):sD s x=l:=by
 unfold sE at h;split at h
 .cases h
 .cases h
 .cases h
 .rename_i h1 h2 h3;cases h;cases s <;> cases x <;> first|rfl|(exact(h1 _ _ rfl).elim)|(exact(h2 rfl).elim)|(exact(h3 _ rfl).elim)
 .split at h
  .cases h;rfl
  .cases h
 .split at h
  .cases h;rfl
  .cases h
 .split at h
  .cases h
  .split at h
   .rename_i hq;subst hq;cases h;rfl
   .cases h
 .cases h
theorem YS{s:Option Src}:∀{ls:List AB} {us:List U},aA s ls=some us->us.map (sD s)=ls
 | [],us,h=>by cases h;rfl
 |l::ls,us,h=>by
  simp only [aA] at h;split at h
  .rename_i x xs h1 h2;cases h;rw [List.map_cons,sF h1,YS h2]
  .cases h
theorem wS{a:AL}{ls:List AB}{x:a.D}(h:a.un ls=some x):a.leaf x=ls:=by
 cases a with
 |val c s=>
  simp only [AL.un] at h;split at h
  .rename_i us hu;simp only [AL.leaf];rw [RF h,YS hu]
  .cases h
 |num k=>
  simp only [AL.un] at h;split at h
  .split at h
   .rename_i hk;subst hk;cases h;rfl
   .cases h
  .cases h
 |al r=>
  simp only [AL.un] at h;split at h
  .split at h
   .rename_i hk;subst hk;rfl
   .cases h
  .cases h
theorem ba:∀{as:List AL} {ls:List AB} {x:TA as},vk as ls=some x->Lf as x=ls
 | [],ls,x,h=>by
  cases ls with
  |nil=>rfl
  |cons l ls=>cases h
 | [a],ls,x,h=>wS h
 |a::a'::as,ls,x,h=>by
  simp only [vk] at h;split at h
  .rename_i y z h1 h2;cases h;show a.leaf y++Lf (a'::as) z=ls;rw [wS h1,ba h2,List.take_append_drop]
  .cases h
theorem FP{b:Bool}{k:Nat}:∀{c:Cut} {ls:List AB},Hb b k c=false->look b k (seg c ls)=none
 | [],ls,h=>rfl
 |(b',d,sh,as)::c,ls,h=>by
  simp only [Hb] at h;simp only [seg,look];split at h
  .cases h
  .exact FP h
theorem Qv{S:St}{k:Nat}:∀{c:Cut} {ls:List AB},Jj S c=some ls->Hb false k c=true->∃e,get S.tm k=some e/\look false k (seg c ls)=some (e.sh,e.cs)
 | [],ls,h,hv=>by cases hv
 |(false,d,sh,as)::c,ls,h,hv=>by
  simp only [Jj] at h;split at h
  .rename_i e ls' h1 h2;split at h
   .rename_i hc;cases h;simp only [Hb] at hv;simp only [seg,look];split at hv
    .rename_i hm;have hd:d=k:=by simpa [JU] using hm
     subst hd;refine⟨e,h1,?_⟩;rw [List.take_left' hc.2,QD hc.1]
    .rename_i hm;rw [List.drop_left' hc.2];exact Qv h2 hv
   .cases h
  .cases h
 |(true,d,sh,as)::c,ls,h,hv=>by
  simp only [Jj] at h;split at h
  .rename_i e ls' h1 h2;split at h
   .rename_i hc;cases h;have ht:((true:Bool)==false)=false:=rfl;simp only [Hb,ht,Bool.false_and] at hv;simp only [seg,look,ht,Bool.false_and];rw [List.drop_left' hc];exact Qv h2 hv
   .cases h
  .cases h
theorem Qu{S:St}{k:Nat}:∀{c:Cut} {ls:List AB},Jj S c=some ls->Hb true k c=true->∃e sh,get S.bx k=some e/\look true k (seg c ls)=some (sh,e.cs)
 | [],ls,h,hv=>by cases hv
 |(true,d,sh,as)::c,ls,h,hv=>by
  simp only [Jj] at h;split at h
  .rename_i e ls' h1 h2;split at h
   .rename_i hc;cases h;simp only [Hb] at hv;simp only [seg,look];split at hv
    .rename_i hm;have hd:d=k:=by simpa [JU] using hm
     subst hd;refine⟨e,sh,h1,?_⟩;rw [List.take_left' hc]
    .rename_i hm;rw [List.drop_left' hc];exact Qu h2 hv
   .cases h
  .cases h
 |(false,d,sh,as)::c,ls,h,hv=>by
  simp only [Jj] at h;split at h
  .rename_i e ls' h1 h2;split at h
   .rename_i hc;cases h;have ht:((false:Bool)==true)=false:=rfl;simp only [Hb,ht,Bool.false_and] at hv;simp only [seg,look,ht,Bool.false_and];rw [List.drop_left' hc.2];exact Qu h2 hv
   .cases h
  .cases h
theorem n5{q:List (Bool×Nat×Sh×List AB)}{a:List (Nat×Ent)}{v:Nat}:∀{l:List (Nat×Ent)},(∀k e,(k,e)∈l->look false k q=some (e.sh,e.cs)\/(look false k q=none/\get a k=some e))->fgE R (Wv q a v l)=fgE R l
 | [],_=>rfl
 |(k,e)::l,h=>by
  have ih:=n5 (v:=v) (l:=l) (fun k e hm=>h k e (List.mem_cons_of_mem _ hm));simp only [fgE,Wv,List.map_cons] at ih ⊢;rw [ih];rcases h k e (by simp) with h1|⟨h1,h2⟩
  .rw [h1];rfl
  .rw [h1,h2]
theorem n0{q:List (Bool×Nat×Sh×List AB)}{a:List (Nat×Bx)}{v:Nat}:∀{l:List (Nat×Bx)},(∀k e,(k,e)∈l->(∃sh,look true k q=some (sh,e.cs))\/(look true k q=none/\get a k=some e))->fgB R (Wu q a v l)=fgB R l
 | [],_=>rfl
 |(k,e)::l,h=>by
  have ih:=n0 (v:=v) (l:=l) (fun k e hm=>h k e (List.mem_cons_of_mem _ hm));simp only [fgB,Wu,List.map_cons] at ih ⊢;rw [ih];rcases h k e (by simp) with ⟨sh,h1⟩|⟨h1,h2⟩
  .rw [h1]
  .rw [h1,h2]
theorem Q7{α:Type}{k:Nat}{e:α}:∀{l:List (Nat×α)},(k,e)∈l->Rt k l=true
 |(j,x)::l,h=>by
  simp only [Rt];cases hb:Nat.beq j k with
  |true=>rfl
  |false=>
   rcases List.mem_cons.1 h with h|h
   .cases h;exact(beq_false hb rfl).elim
   .exact Q7 h
theorem Yh{c:Cut}{a:List (Nat×Ent)}:∀{l:List (Nat×Ent)} {k:Nat} {e:Ent},n8 c a l=true->(k,e)∈l->get l k=some e/\(Hb false k c=true\/(Hb false k c=false/\∃e',get a k=some e'/\e.ver=e'.ver))
 |(j,x)::l,k,e,h,hm=>by
  simp only [n8,Bool.and_eq_true,Bool.not_eq_true'] at h;obtain⟨⟨h1,h2⟩,h3⟩:=h;rcases List.mem_cons.1 hm with hm|hm
  .obtain⟨rfl,rfl⟩:=Prod.mk.injEq _ _ _ _▸hm;refine⟨by simp only [get];rw [show Nat.beq k k=true from by simp [JU]],?_⟩;cases hv:Hb false k c with
   |true=>exact .inl rfl
   |false=>
    rw [hv] at h1;dsimp only at h1;split at h1
    .rename_i e' he;exact .inr ⟨rfl,e',he,beq_true h1⟩
    .cases h1
  .obtain⟨h4,h5⟩:=Yh h3 hm;refine⟨?_,h5⟩;simp only [get];cases hb:Nat.beq j k with
   |true=>rw [beq_true hb,Q7 hm] at h2;cases h2
   |false=>exact h4
theorem Yg{c:Cut}{a:List (Nat×Bx)}:∀{l:List (Nat×Bx)} {k:Nat} {e:Bx},n7 c a l=true->(k,e)∈l->get l k=some e/\(Hb true k c=true\/(Hb true k c=false/\∃e',get a k=some e'/\e.ver=e'.ver))
 |(j,x)::l,k,e,h,hm=>by
  simp only [n7,Bool.and_eq_true,Bool.not_eq_true'] at h;obtain⟨⟨h1,h2⟩,h3⟩:=h;rcases List.mem_cons.1 hm with hm|hm
  .obtain⟨rfl,rfl⟩:=Prod.mk.injEq _ _ _ _▸hm;refine⟨by simp only [get];rw [show Nat.beq k k=true from by simp [JU]],?_⟩;cases hv:Hb true k c with
   |true=>exact .inl rfl
   |false=>
    rw [hv] at h1;dsimp only at h1;split at h1
    .rename_i e' he;exact .inr ⟨rfl,e',he,beq_true h1⟩
    .cases h1
  .obtain⟨h4,h5⟩:=Yg h3 hm;refine⟨?_,h5⟩;simp only [get];cases hb:Nat.beq j k with
   |true=>rw [beq_true hb,Q7 hm] at h2;cases h2
   |false=>exact h4
theorem qJ{a b:Nat}(h:Nat.blt a b=true):a<b:=Nat.le_of_ble_eq_true h
theorem oI{v:Nat}:∀{l:List (Nat×Ent)} {k:Nat} {e:Ent},wfE v l=true->get l k=some e->e.ver<v
 |(j,x)::l,k,e,h,hg=>by
  simp only [wfE,Bool.and_eq_true] at h;simp only [get] at hg;split at hg
  .cases hg;exact qJ h.1
  .exact oI h.2 hg
theorem oH{v:Nat}:∀{l:List (Nat×Bx)} {k:Nat} {e:Bx},wfB v l=true->get l k=some e->e.ver<v
 |(j,x)::l,k,e,h,hg=>by
  simp only [wfB,Bool.and_eq_true] at h;simp only [get] at hg;split at hg
  .cases hg;exact qJ h.1
  .exact oH h.2 hg
structure Eb(c:Cut)(S S':St):Prop where
 tm:∀k e,Hb false k c=false->get S'.tm k=some e->e.ver<S.nv->get S.tm k=some e
 bx:∀k e,Hb true k c=false->get S'.bx k=some e->e.ver<S.nv->get S.bx k=some e
 pin:S'.pin=S.pin
theorem Eb.of{c:Cut}{S S':St}(h:AU S S'):Eb c S S':=⟨fun k e _=>h.tm k e,fun k e _=>h.bx k e,h.pin⟩
theorem jJ{c:Cut}{S S':St}{x:TA c.as}(h:c.fit S S'=some x)(hh:Eb c S S') :
 (c.st S S' x).fg R=S'.fg R /\
 (∀k e,(k,e)∈S'.tm->look false k (seg c (Lf c.as x))=some (e.sh,e.cs)\/(look false k (seg c (Lf c.as x))=none/\get S.tm k=some e)) /\
 (∀k e,(k,e)∈S'.bx->(∃sh,look true k (seg c (Lf c.as x))=some (sh,e.cs))\/(look true k (seg c (Lf c.as x))=none/\get S.bx k=some e)):=by
 unfold Cut.fit at h;split at h
 .rename_i hc;obtain⟨w1,w2,s1,s2⟩:=hc;split at h
  .rename_i ls hg;rw [ba h];have hE:∀k e,(k,e)∈S'.tm->look false k (seg c ls)=some (e.sh,e.cs)\/(look false k (seg c ls)=none/\get S.tm k=some e):=by
    intro k e hm;obtain⟨h1,h2⟩:=Yh s1 hm;rcases h2 with h2|⟨h2,e',h3,h4⟩
    .obtain⟨e2,h5,h6⟩:=Qv hg h2;rw [h1] at h5;cases h5;exact .inl h6
    .exact .inr ⟨FP h2,hh.tm k e h2 h1 (by rw [h4];exact oI w1 h3)⟩
   have hB:∀k e,(k,e)∈S'.bx->(∃sh,look true k (seg c ls)=some (sh,e.cs))\/(look true k (seg c ls)=none/\get S.bx k=some e):=by
    intro k e hm;obtain⟨h1,h2⟩:=Yg s2 hm;rcases h2 with h2|⟨h2,e',h3,h4⟩
    .obtain⟨e2,sh,h5,h6⟩:=Qu hg h2;rw [h1] at h5;cases h5;exact .inl ⟨sh,h6⟩
    .exact .inr ⟨FP h2,hh.bx k e h2 h1 (by rw [h4];exact oH w2 h3)⟩
   refine⟨?_,hE,hB⟩;simp only [St.fg,Cut.st,ba h];rw [n5 hE,n0 hB,hh.pin]
  .cases h
 .cases h
theorem Yc{q:List (Bool×Nat×Sh×List AB)}{a:List (Nat×Ent)}{v:Nat}:∀{l l':List (Nat×Ent)},MH l l'=true->(∀k e,(k,e)∈l'->look false k q=some (e.sh,e.cs)\/(look false k q=none/\get a k=some e))->Wv q a v l=Wv q a v l'
 | [],[],_,_=>rfl
 | [],_::_,h,_=>by cases h
 |_::_,[],h,_=>by cases h
 |(k,e)::l,(k',e')::l',h,hl=>by
  simp only [MH,Bool.and_eq_true] at h;obtain⟨h1,h2⟩:=h;have:=beq_true h1;subst this;have ih:=Yc (v:=v) h2 (fun k e hm=>hl k e (List.mem_cons_of_mem _ hm));simp only [Wv];rw [ih];rcases hl k e' (by simp) with h3|⟨h3,h4⟩
  .rw [h3]
  .rw [h3,h4]
theorem Yb{q:List (Bool×Nat×Sh×List AB)}{a:List (Nat×Bx)}{v:Nat}:∀{l l':List (Nat×Bx)},MH l l'=true->(∀k e,(k,e)∈l'->(∃sh,look true k q=some (sh,e.cs))\/(look true k q=none/\get a k=some e))->Wu q a v l=Wu q a v l'
 | [],[],_,_=>rfl
 | [],_::_,h,_=>by cases h
 |_::_,[],h,_=>by cases h
 |(k,e)::l,(k',e')::l',h,hl=>by
  simp only [MH,Bool.and_eq_true] at h;obtain⟨h1,h2⟩:=h;have:=beq_true h1;subst this;have ih:=Yb (v:=v) h2 (fun k e hm=>hl k e (List.mem_cons_of_mem _ hm));simp only [Wu];rw [ih];rcases hl k e' (by simp) with ⟨sh,h3⟩|⟨h3,h4⟩
  .rw [h3]
  .rw [h3,h4]
theorem Uo{q:List (Bool×Nat×Sh×List AB)}{a:List (Nat×Ent)}{v k:Nat}(hq:look false k q=none):∀{l:List (Nat×Ent)} {y:Ent},get (Wv q a v l) k=some y->∃e,get l k=some e/\y=(match get a k with|some e'=>e'|none=>e)
 |(j,x)::l,y,h=>by
  simp only [Wv,get] at h ⊢;cases hb:Nat.beq j k with
  |true=>
   rw [hb] at h;have:=beq_true hb;subst this;rw [hq] at h;exact⟨x,rfl,(Option.some.inj h).symm⟩
  |false=>rw [hb] at h;exact Uo hq h
theorem Un{q:List (Bool×Nat×Sh×List AB)}{a:List (Nat×Bx)}{v k:Nat}(hq:look true k q=none):∀{l:List (Nat×Bx)} {y:Bx},get (Wu q a v l) k=some y->∃e,get l k=some e/\y=(match get a k with|some e'=>e'|none=>e)
 |(j,x)::l,y,h=>by
  simp only [Wu,get] at h ⊢;cases hb:Nat.beq j k with
  |true=>
   rw [hb] at h;have:=beq_true hb;subst this;rw [hq] at h;exact⟨x,rfl,(Option.some.inj h).symm⟩
  |false=>rw [hb] at h;exact Un hq h
theorem Eb.round{c:Cut}{S S':St}{x:TA c.as}(h:AU (c.st S S x) S'):Eb c S S':=by
 refine⟨fun k e hv hg hlt=>?_,fun k e hv hg hlt=>?_,h.pin⟩
 .have h1:=h.tm k e hg (Nat.lt_succ_of_lt hlt);obtain⟨e',h2,h3⟩:=Uo (FP hv) h1;rw [h2] at h3;subst h3;exact h2
 .have h1:=h.bx k e hg (Nat.lt_succ_of_lt hlt);obtain⟨e',h2,h3⟩:=Un (FP hv) h1;rw [h2] at h3;subst h3;exact h2
theorem oq{c:Cut}{S S':St}{y:TA c.as}(h:c.fit S S'=some y)(hh:Eb c S S')(h1:MH S.tm S'.tm=true)(h2:MH S.bx S'.bx=true):(c.st S S y).fg R=S'.fg R:=by
 obtain⟨h3,h4,h5⟩:=jJ (R:=R) h hh;rw [<-h3];simp only [St.fg,Cut.st];rw [Yc h1 h4,Yb h2 h5]
theorem Q8{b:Bool}{k:Nat}:∀{c:Cut} {ls:List AB},Hb b k c=true->∃p,look b k (seg c ls)=some p
 |(b',d,sh,as)::c,ls,h=>by
  simp only [Hb] at h;simp only [seg,look];split at h
  .exact⟨_,rfl⟩
  .exact Q8 h
theorem gp{q:List (Bool×Nat×Sh×List AB)}{a:List (Nat×Ent)}{v k:Nat}{p:Sh×List AB}(hp:look false k q=some p):∀{l:List (Nat×Ent)} {y:Ent},get (Wv q a v l) k=some y->v<=y.ver
 |(j,z)::l,y,h=>by
  simp only [Wv,get] at h;cases hb:Nat.beq j k with
  |true=>
   rw [hb] at h;have:=beq_true hb;subst this;rw [hp] at h;cases h;exact Nat.le_refl _
  |false=>rw [hb] at h;exact gp hp h
theorem gn{q:List (Bool×Nat×Sh×List AB)}{a:List (Nat×Bx)}{v k:Nat}{p:Sh×List AB}(hp:look true k q=some p):∀{l:List (Nat×Bx)} {y:Bx},get (Wu q a v l) k=some y->v<=y.ver
 |(j,z)::l,y,h=>by
  simp only [Wu,get] at h;cases hb:Nat.beq j k with
  |true=>
   rw [hb] at h;have:=beq_true hb;subst this;rw [hp] at h;cases h;exact Nat.le_refl _
  |false=>rw [hb] at h;exact gn hp h
theorem AU.st{c:Cut}{S S':St}{x:TA c.as}(hk:AU S S'):AU S (c.st S S' x):=by
 refine⟨by simp [Cut.st],fun k e he hv=>?_,fun k e he hv=>?_,rfl⟩
 .cases hvk:Hb false k c with
  |false=>
   obtain⟨e',h4,h5⟩:=Uo (FP hvk) he;cases hg:get S.tm k with
   |some e2=>rw [hg] at h5;subst h5;rfl
   |none=>
    rw [hg] at h5;subst h5;have:=hk.tm k _ h4 hv;rw [hg] at this;cases this
  |true=>
   obtain⟨p,hp⟩:=Q8 (ls:=Lf c.as x) hvk;exact absurd hv (Nat.not_lt.2 (gp hp he))
 .cases hvk:Hb true k c with
  |false=>
   obtain⟨e',h4,h5⟩:=Un (FP hvk) he;cases hg:get S.bx k with
   |some e2=>rw [hg] at h5;subst h5;rfl
   |none=>
    rw [hg] at h5;subst h5;have:=hk.bx k _ h4 hv;rw [hg] at this;cases this
  |true=>
   obtain⟨p,hp⟩:=Q8 (ls:=Lf c.as x) hvk;exact absurd hv (Nat.not_lt.2 (gn hp he))
theorem CF:∀{x:DQ R} {S:St} {K:Ex->St->Option ρ} {r:ρ} {Q:Ex->Lv.St->Prop},Ea x S K=some r->(∀e S',AU S S'->K e S'=some r->Q e (S'.fg R))->wp D1 x.er (S.fg R) Q
 |.skip,S,K,r,Q,h,hQ=>hQ _ _ (AU.refl _) h
 |.region ops CK,S,K,r,Q,h,hQ=>by
  obtain⟨S',h1,h2,h3⟩:=rU (show evs ops S _=some r from h);rw [force_eq] at h2;refine h3 _ ⟨S'.clo 6 (S'.pin++CK),?_⟩;rw [<-Oi];exact hQ _ _ (h1.trans (AU.clean _ _)) h2
 |.A8 x CK,S,K,r,Q,h,hQ=>by
  obtain⟨S',h1,h2,h3⟩:=Qs (show evr x S _=some r from h);rw [force_eq] at h2;refine h3 _ ⟨S'.clo 6 (S'.pin++CK),?_⟩;rw [<-Oi];exact hQ _ _ (h1.trans (AU.clean _ _)) h2
 |.seq a b,S,K,r,Q,h,hQ=>by
  refine CF (x:=a) (show Ea a S _=some r from h) fun e S' hk h'=>?_
  cases e with
  |n=>exact CF (x:=b) h' fun e S2 hk2 h2=>hQ _ _ (hk.trans hk2) h2
  |x i=>exact hQ _ _ hk h'
  |r=>exact hQ _ _ hk h'
 |.join c a b,S,K,r,Q,h,hQ=>by
  refine CF (x:=a) (show Ea a S _=some r from h) fun e S' hk h'=>?_
  cases e with
  |n=>
   dsimp only at h' ⊢;split at h'
   .rename_i x hx;have h':(c.st S S' x).force (fun S=>Ea b S K)=some r:=by rw [<-rq (fun x=>(c.st S S' x).force fun S=>Ea b S K) x];exact h'
    rw [force_eq] at h';obtain⟨h3,_,_⟩:=jJ (R:=R) hx (Eb.of hk);rw [<-h3];refine CF (x:=b) h' fun e S2 hk2 h2=>hQ _ _ ?_ h2
    exact(AU.st hk).trans hk2
   .cases h'
  |x i=>exact hQ _ _ hk h'
  |r=>exact hQ _ _ hk h'
 |.cond c kt ke t e,S,K,r,Q,h,hQ=>by
  simp only [Ea] at h;split at h
  .rename_i b hb;have hs:=H5 (R:=R) hb;simp only [YO.er,U.fg] at hs;rcases lF h with ⟨rfl,h'⟩|⟨rfl,h'⟩
   .rw [force_eq] at h';refine⟨true,hs,S.clo 6 (S.pin++kt),?_⟩;rw [if_pos rfl,<-Oi];exact CF (x:=t) h' fun e S2 hk2 h2=>hQ _ _ ((AU.clean _ _).trans hk2) h2
   .rw [force_eq] at h';refine⟨false,hs,S.clo 6 (S.pin++ke),?_⟩;rw [if_neg (by simp),<-Oi];exact CF (x:=e) h' fun e S2 hk2 h2=>hQ _ _ ((AU.clean _ _).trans hk2) h2
  .cases h
 |.block id b,S,K,r,Q,h,hQ=>by
  refine CF (x:=b) (show Ea b S _=some r from h) fun e S' hk h'=>?_
  cases e with
  |n=>exact hQ _ _ hk h'
  |x i=>
   dsimp only at h' ⊢;split at h'
   .rename_i hi;rw [if_pos hi];exact hQ _ _ hk h'
   .rename_i hi;rw [if_neg hi];exact hQ _ _ hk h'
  |r=>exact hQ _ _ hk h'
 |.loop c b,S,K,r,Q,h,hQ=>by
  simp only [Ea] at h;split at h
  .rename_i x0 hx0;have key:∀(n:Nat) (x:TA c.as),AT (fun L x=>(c.st S S x).force fun S1=>Ea b S1 fun e S'=>match e with
    |.n=>if MH S.tm S'.tm=true/\MH S.bx S'.bx=true then (match c.fit S S' with|some y=>L y|none=>none) else none
    |.x i=>K (.x i) S'
    |.r=>K .r S') n x=some r->sH (wp D1 b.er) n ((c.st S S x).fg R) Q:=by
    intro n
    induction n with
    |zero=>intro x h;rw [vG] at h;cases h
    |succ n ih=>
     intro x h;rw [Bo] at h;rw [force_eq] at h;refine CF (x:=b) h fun e S' hk h'=>?_
     have hS:AU S (c.st S S x):=AU.st (AU.refl S);cases e with
     |n=>
      dsimp only at h' ⊢;split at h'
      .rename_i hsk;split at h'
       .rename_i y hy;rw [<-oq hy (Eb.round hk) hsk.1 hsk.2];exact ih y h'
       .cases h'
      .cases h'
     |x i=>exact hQ _ _ (hS.trans hk) h'
     |r=>exact hQ _ _ (hS.trans hk) h'
   refine⟨big,?_⟩;obtain⟨h3,_,_⟩:=jJ (R:=R) hx0 (Eb.of (AU.refl S));rw [<-h3];exact key big x0 h
  .cases h
 |.exit id,S,K,r,Q,h,hQ=>hQ _ _ (AU.refl _) h
 |.ret,S,K,r,Q,h,hQ=>hQ _ _ (AU.refl _) h
 |.scope b,S,K,r,Q,h,hQ=>CF (x:=b) (show Ea b S K=some r from h) hQ
end
end Y
end Lv
namespace Lv
open Go (IntKind BinOp UnOp)
namespace Y
section
variable{R:List GF}{ρ:Type}
def ye:C->Bool
 |.st _=>true
 |_=>false
def cN:List (Bool×C)->Bool
 | []=>true
 |(true,_)::r=>cN r
 |(false,c)::r=>(!ye c&&decide (c≠.m))&&cN r
def pK:List PK->Bool
 | []=>true
 |.f _ l::r=>cN l&&pK r
 |_::r=>pK r
theorem Y9(i:Nat):∀(l:List (Bool×C)) (x:Yy l),cN l=true->Lv.IE i (Ka l x)=some ((IE i l x).map Cap.fg)
 | [],x,h=>rfl
 |(true,c)::l,x,h=>by
  have ih:=Y9 i l x.2 h;simp only [Ka,Lv.IE,IE,List.map_cons,Cap.fg];rw [ih,CC];rfl
 |(false,c)::l,x,h=>by
  simp only [cN,Bool.and_eq_true,Bool.not_eq_true',decide_eq_true_eq] at h;have ih:=Y9 i l x.2 h.2;cases c with
  |st n=>cases h.1.1
  |m=>exact(h.1.2 rfl).elim
  |_=>
   simp only [Ka,enc,Lv.IE,IE,cells,List.map_cons,ih];rfl
theorem tI(c:C)(x:c.D):Ca (shC c) (enc c x).length=true:=by
 rw [Hv];cases c <;> rfl
theorem HG:∀(ks:List PK) (i:Nat) (fs:List Nat) (a:A ks) (S:St),pK ks=true->fs.map (fun n=>(R[n]?).map GF.x)=(fX ks).map some ->
 Lv.initK i (ks.map PK.md) (aVs ks a) (S.fg R)=some ((initK i fs ks a S).fg R)
 | [],i,fs,a,S,_,_=>rfl
 |k::ks,i,fs,a,S,hp,hf=>by
  obtain⟨a1,a2⟩:=a;cases k with
  |v c=>
   have hE:enc c a1=(cells c a1).map U.fg:=CC c a1;have ih:=HG ks (i+1) fs a2 (S.ER i (shC c) ((cells c a1).map (Bm i))) hp hf;rw [Fi,I4,<-hE] at ih;exact ih
  |p c=>
   have hE:enc c a1=(cells c a1).map U.fg:=CC c a1;have ih:=HG ks (i+1) fs a2 (S.ER i .one [.vp (.old i) (cells c a1)]) hp hf;rw [Fi] at ih;simp only [List.map_cons,List.map_nil,AB.fg] at ih;rw [<-hE] at ih;exact ih
  |b c=>
   have hE:enc c a1=(cells c a1).map U.fg:=CC c a1;have ih:=HG ks (i+1) fs a2 (let S1:=(S.ER i .one [.bp i 0]).Hg i ((cells c a1).map (Bm i));⟨S1.tm,S1.bx,i::S1.pin,S1.nv⟩) hp hf;have e:(let S1:=(S.ER i .one [.bp i 0]).Hg i ((cells c a1).map (Bm i));(⟨S1.tm,S1.bx,i::S1.pin,S1.nv⟩:St)).fg R={ S.fg R with tm:=Lv.put (S.fg R).tm i ⟨.one,[.bp i 0]⟩,bx:=Lv.put (S.fg R).bx i ((enc c a1).map (Lv.Bm i)),pin:=i::(S.fg R).pin}:=by
    have h1:=Mu (R:=R) (S.ER i .one [.bp i 0]) i ((cells c a1).map (Bm i));rw [Fi,I4,<-hE] at h1;have h2:=congrArg Lv.St.tm h1;have h3:=congrArg Lv.St.bx h1;simp only [St.fg] at h2 h3 ⊢;rw [h2,h3];rfl
   rw [e] at ih;exact ih
  |o c=>
   have hE:enc c a1=(cells c a1).map U.fg:=CC c a1;have ih:=HG ks (i+1) fs a2 (S.ER i (shC c) ((cells c a1).map D5)) hp hf;rw [Fi,RA,<-hE] at ih;exact ih
  |m c=>
   have hE:enc c a1=(cells c a1).map U.fg:=CC c a1;have ih:=HG ks (i+1) fs a2 (let S1:=S.ER i (shC c) ((cells c a1).map D5);⟨S1.tm,S1.bx,i::S1.pin,S1.nv⟩) hp hf;have e:(let S1:=S.ER i (shC c) ((cells c a1).map D5);(⟨S1.tm,S1.bx,i::S1.pin,S1.nv⟩:St)).fg R={ S.fg R with tm:=Lv.put (S.fg R).tm i ⟨shC c,(enc c a1).map Lv.D5⟩,pin:=i::(S.fg R).pin}:=by
    have h1:=Fi (R:=R) S i (shC c) ((cells c a1).map D5);rw [RA,<-hE] at h1;have h2:=congrArg Lv.St.tm h1;simp only [St.fg] at h2 ⊢;rw [h2];rfl
   rw [e] at ih;have hs:Ca (shC c) (enc c a1).length=true:=tI c a1;show (if Ca (shC c) (enc c a1).length=true then _ else none)=_;rw [if_pos hs];exact ih
  |f x l=>
   simp only [pK,Bool.and_eq_true] at hp;cases fs with
   |nil=>simp [fX] at hf
   |cons n fs=>
    simp only [fX,List.map_cons,List.cons.injEq] at hf;have hx:xr R n=x:=by
     unfold xr;cases hr:R[n]? with
     |none=>rw [hr] at hf;simp at hf
     |some g=>rw [hr] at hf;simpa using hf.1
    have ih:=HG ks (i+1) fs a2 (S.ER i .one [.fn n (IE i l a1)]) hp.2 hf.2;rw [Fi] at ih;have hc:Lv.IE i (Ka l a1)=some ((IE i l a1).map Cap.fg):=Y9 i l a1 hp.1;show (match Lv.IE i (Ka l a1) with|some ls=>Lv.initK (i+1) _ _ _|none=>none)=_;rw [hc];simp only [List.map_cons,List.map_nil,AB.fg,hx] at ih;exact ih
theorem J8:∀{rs:List NU} {S:St} {K:List (Option Nat)->List AB->Option ρ} {r:ρ},IS rs S K=some r->∃ns ls,Lv.IS rs (S.fg R)=some (ns,ls.map (AB.fg R))/\K ns ls=some r
 | [],S,K,r,h=>⟨[],[],rfl,h⟩
 |.tmp t::rs,S,K,r,h=>by
  simp only [IS] at h;split at h
  .rename_i e he;split at h
   .rename_i hs;obtain⟨ns,ls,h1,h2⟩:=J8 h;refine⟨_,_,?_,h2⟩;have:=FH (R:=R) he;simp only [YO.er] at this;simp only [Lv.IS,this,h1,En.fg,List.length_map,hs,if_true,List.map_append];rfl
   .cases h
  .cases h
 |.cell t n::rs,S,K,r,h=>by
  simp only [IS] at h;split at h
  .rename_i id o he;obtain⟨ls',h1,h⟩:=Pu (R:=R) h;obtain⟨ns,ls,h2,h3⟩:=J8 h;refine⟨_,_,?_,h3⟩;have:=B7 (R:=R) he;simp only [YO.er,AB.fg] at this h1;simp only [Lv.IS,this,h1,h2,List.map_append]
  .cases h
 |.bx _::rs,S,K,r,h=>by cases h
 |.vw _ _::rs,S,K,r,h=>by cases h
theorem vU{rk:RK}{rs:List NU}{S:St}{K:St->List U->Option ρ}{r:ρ}(h:Ww rk rs S K=some r):∃S' us,Lv.Ww rs (S.fg R)=some (S'.fg R,rk.sh,us.map U.fg)/\K S' us=some r:=by
 unfold Ww at h;split at h
 .rename_i k c t;split at h
  .rename_i id he;have h1:=B7 (R:=R) he;simp only [YO.er,AB.fg] at h1;split at h
   .rename_i ls hl;split at h
    .cases h
    .rename_i hp;split at h
     .rename_i hk;split at h
      .rename_i us hu;subst hk;refine⟨S,us,?_,h⟩;have hp':id∉(S.fg R).pin:=fun hh=>hp (mem_iff.2 hh)
       simp only [Lv.Ww,h1,Iv,hl,Option.map_some,HH,Ic hu];rw [if_neg hp'];rfl
      .cases h
     .cases h
   .cases h
  .cases h
 .rename_i k c t k';split at h
  .rename_i hk;subst hk;split at h
   .rename_i k'' c' xs he;have h1:=B7 (R:=R) he;simp only [YO.er,AB.fg] at h1;split at h
    .rename_i hk;subst hk;exact⟨S,_,by simp only [Lv.Ww,h1,if_true];rfl,h⟩
    .cases h
   .rename_i q sub he;have h1:=B7 (R:=R) he;simp only [YO.er,AB.fg] at h1;split at h
    .rename_i x hx;refine⟨_,_,?_,h⟩;simp only [Lv.Ww,h1,Ec,hx,Option.map_some,AB.fg,RJ,List.map_cons,List.map_nil,QJ];rfl
    .cases h
   .cases h
  .cases h
 .rename_i cs;obtain⟨ns,ls,h1,h⟩:=J8 (R:=R) h;split at h
  .rename_i hn;split at h
   .rename_i S' us hu;obtain⟨h2,_⟩:=GP (R:=R) hu;refine⟨S',us,?_,h⟩;have:Lv.Ww rs (S.fg R)=match Lv.IS rs (S.fg R) with
     |some (ns,ls)=>(match Lv.BY (S.fg R) ls with|some (S',cs)=>some (S',iC ns,cs)|none=>none)
     |none=>none:=by
     rcases rs with _|⟨a,_|⟨b,rs⟩⟩
     .rfl
     .cases a <;> first|rfl|(simp [Lv.IS] at h1)
     .cases a <;> rfl
    rw [this,h1];dsimp only;rw [h2,hn];rfl
   .cases h
  .cases h
 .cases h
theorem xq{l:AB}{u:U}(h:owT l=some u):Lv.owT (AB.fg R l)=some u.fg:=by
 cases l with
 |ow x=>cases h;rfl
 |t x=>
  simp only [owT] at h;simp only [AB.fg,Lv.owT,VJ];split at h
  .cases h
  .rename_i hc;cases h;rw [if_neg hc]
 |_=>cases h
theorem nn:∀{ls:List AB} {us:List U},SH ls=some us->Lv.SH (ls.map (AB.fg R))=some (us.map U.fg)/\us.length=ls.length
 | [],us,h=>by cases h;exact⟨rfl,rfl⟩
 |l::ls,us,h=>by
  simp only [SH] at h;split at h
  .rename_i x xs h1 h2;cases h;obtain⟨h3,h4⟩:=nn h2;simp only [List.map_cons,Lv.SH,xq h1,h3,List.length_cons,h4];exact⟨trivial,trivial⟩
  .cases h
theorem Sz{k:Nat}:∀{ls:List AB} {us:List U},CI k ls=some us->us.length=ls.length
 | [],us,h=>by cases h;rfl
 |l::ls,us,h=>by
  simp only [CI] at h;split at h
  .rename_i x xs h1 h2;cases h;simp only [List.length_cons,Sz h2]
  .cases h
def chunks:List C->List U->List (List U)
 | [],_=>[]
 |c::cs,us=>us.take c.size::chunks cs (us.drop c.size)
theorem TB:∀(cs:List C) (us:List U),(chunks cs us).length=cs.length
 | [],_=>rfl
 |c::cs,us=>by simp only [chunks,List.length_cons,TB cs]
theorem RY:∀(cs:List C) (us:List U),us.length=NN cs->(chunks cs us).flatten=us
 | [],us,h=>by cases us with|nil=>rfl|cons u us=>cases h
 |c::cs,us,h=>by
  simp only [NN] at h;simp only [chunks,List.flatten_cons];rw [RY cs _ (by rw [List.length_drop];omega),List.take_append_drop]
theorem S9:∀(cs ds:List C) (us os:List U),us.length=NN cs->chunks (cs++ds) (us++os)=chunks cs us++chunks ds os
 | [],ds,us,os,h=>by cases us with|nil=>rfl|cons u us=>cases h
 |c::cs,ds,us,os,h=>by
  simp only [NN] at h;simp only [List.cons_append,chunks];rw [List.take_append_of_le_length (by omega),List.drop_append_of_le_length (by omega),S9 cs ds _ os (by rw [List.length_drop];omega)]
theorem Wg:∀{cs:List C} {us:List U} {x:Tu cs},ofT cs us=some x->Jg cs x=(chunks cs us).map (List.map U.fg)
 | [],us,x,h=>rfl
 | [c],us,x,h=>by
  have h':ofC c us=some x:=h;show [enc c x]=_;rw [Dc h'];simp only [chunks,List.map_cons,List.map_nil];rw [List.take_of_length_le (by rw [vJ h'];exact Nat.le_refl _)]
 |c::c'::cs,us,x,h=>by
  simp only [ofT] at h;split at h
  .rename_i a b h1 h2;cases h;show enc c a::Jg (c'::cs) b=_;rw [Dc h1,Wg h2];rfl
  .cases h
theorem FU{S:St}:∀{ks:List PK} {i:Nat} {os:List U},B8 i ks S=some os->Lv.B8 i (ks.map PK.md) (S.fg R)=some ((chunks (F5 ks) os).map (List.map U.fg))/\os.length=NN (F5 ks)
 | [],i,os,h=>by cases h;exact⟨rfl,rfl⟩
 |.b c::ks,i,os,h=>by
  simp only [B8] at h;split at h
  .rename_i ls os' h1 h2;obtain⟨h3,h4⟩:=FU (ks:=ks) h2;split at h
   .rename_i hc;split at h
    .rename_i us hu;cases h;have hl:us.length=c.size:=by rw [Sz hu,hc.2]
     have hp:i∈(S.fg R).pin:=mem_iff.1 hc.1;refine⟨?_,by simp only [List.length_append,F5,NN,hl,h4]⟩;simp only [List.map_cons,PK.md,Lv.B8,Iv,h1,Option.map_some,h3,F5,chunks];rw [if_pos hp,Ic hu,List.take_left' hl,List.drop_left' hl];rfl
    .cases h
   .cases h
  .cases h
 |.m c::ks,i,os,h=>by
  simp only [B8] at h;split at h
  .rename_i e os' h1 h2;obtain⟨h3,h4⟩:=FU (ks:=ks) h2;split at h
   .rename_i hc;split at h
    .rename_i us hu;cases h;obtain⟨h5,h6⟩:=nn (R:=R) hu;have hl:us.length=c.size:=by rw [h6,hc.2.2]
     have hp:i∈(S.fg R).pin:=mem_iff.1 hc.1;refine⟨?_,by simp only [List.length_append,F5,NN,hl,h4]⟩;simp only [List.map_cons,PK.md,Lv.B8,Pc,h1,Option.map_some,h3,F5,chunks,Ent.fg,List.length_map];rw [if_pos ⟨hp,hc.2.1⟩,h5,List.take_left' hl,List.drop_left' hl];rfl
    .cases h
   .cases h
  .cases h
 |.v c::ks,i,os,h=>FU (ks:=ks) h
 |.p c::ks,i,os,h=>FU (ks:=ks) h
 |.o c::ks,i,os,h=>FU (ks:=ks) h
 |.f x l::ks,i,os,h=>FU (ks:=ks) h
theorem fV:∀(cs:List C) (x:Tu cs),(Jg cs x).map List.length=cs.map C.size
 | [],x=>rfl
 | [c],x=>congrArg (fun n=>[n]) (Hv c x)
 |c::c'::cs,x=>by
  obtain⟨a,b⟩:=x;show (enc c a).length::(Jg (c'::cs) b).map List.length=_;rw [fV (c'::cs) b,Hv];rfl
theorem FT:∀(ks:List PK) (a:A ks) (os:List (List T)),os.map List.length=(F5 ks).map C.size->Lv.Cj (ks.map PK.md) (aVs ks a) os=true
 | [],a,[],h=>rfl
 | [],a,o::os,h=>by cases h
 |.b c::ks,a,[],h=>by cases h
 |.b c::ks,a,o::os,h=>by
  obtain⟨a1,a2⟩:=a;simp only [F5,List.map_cons,List.cons.injEq] at h;have hl:(enc c a1).length=c.size:=Hv c a1;show (o.length==(enc c a1).length&&Lv.Cj (ks.map PK.md) (aVs ks a2) os)=true;rw [hl,h.1,FT ks a2 os h.2];simp
 |.m c::ks,a,[],h=>by cases h
 |.m c::ks,a,o::os,h=>by
  simp only [F5,List.map_cons,List.cons.injEq] at h;exact FT ks a.2 os h.2
 |.v c::ks,a,os,h=>FT ks a.2 os h
 |.p c::ks,a,os,h=>FT ks a.2 os h
 |.o c::ks,a,os,h=>FT ks a.2 os h
 |.f x l::ks,a,os,h=>FT ks a.2 os h
end
def YF.er(f:YF):BD:=.mk (f.ps.map PK.md) f.rs f.body.er
theorem Zq{f:YF}{S:St}{r:Tu (f.rk.cs++F5 f.ps)}(h:fin f.ps f.rk f.rs S=some r) :
 Lv.fin (f.ps.map PK.md) f.rs (S.fg f.R) f.rk.sh ((Jg _ r).take f.rk.cs.length).flatten ((Jg _ r).drop f.rk.cs.length):=by
 unfold fin at h;obtain⟨S',us,h1,h⟩:=vU (R:=f.R) h;split at h
 .rename_i os ho;split at h
  .rename_i hl;obtain⟨h2,h3⟩:=FU (R:=f.R) ho;have h4:=Wg h;rw [S9 _ _ _ _ hl,List.map_append] at h4;have hlen:((chunks f.rk.cs us).map (List.map U.fg)).length=f.rk.cs.length:=by rw [List.length_map,TB]
   rw [h4,List.take_left' hlen,List.drop_left' hlen];refine⟨S'.fg f.R,?_,h2⟩;rw [h1,<-List.map_flatten,RY _ _ hl]
  .cases h
 .cases h
theorem YF.sound{f:YF}(hp:pK f.ps=true)(hf:f.fs.map (fun n=>(f.R[n]?).map GF.x)=(fX f.ps).map some){a:A f.ps}{r:Tu (f.rk.cs++F5 f.ps)}(h:f.run a=some r) :
 D1 f.er (aVs f.ps a) f.rk.sh ((Jg _ r).take f.rk.cs.length).flatten ((Jg _ r).drop f.rk.cs.length):=by
 unfold YF.run at h;rw [force_eq] at h;refine .intro ⟨_,HG (R:=f.R) f.ps 0 f.fs a ⟨[],[],[],0⟩ hp hf,?_,?_⟩
 .refine CF h fun e S' _ h'=>?_
  cases e with
  |n=>exact Zq h'
  |x i=>cases h'
  |r=>exact Zq h'
 .refine FT _ _ _ ?_;have:=fV (f.rk.cs++F5 f.ps) r;rw [List.map_drop,this,List.map_append,List.drop_left' (by rw [List.length_map])]
def YF.gf(f:YF)(hp:pK f.ps=true)(hf:f.fs.map (fun n=>(f.R[n]?).map GF.x)=(fX f.ps).map some)(d:A f.ps->Option (Tu (f.rk.cs++F5 f.ps)))(hd:∀a,f.run a=d a):GF:=
 ⟨f.er,f.ps,f.rk,d,rfl,fun a r h=>YF.sound hp hf ((hd a).trans h)⟩
end Y
end Lv
namespace Lv
open Y
open Go
def o6(c:C)(xs:List c.D)(i:Int)(ys:List c.D):Option (List c.D):=
 if 0<=i/\i.toNat<=xs.length/\ys≠[]/\xs.length+ys.length<=lim then some (xs.take i.toNat++ys++xs.drop i.toNat) else none
theorem rl{c:C}(hf:Rm c=true)(xs:List c.D)(i:Int)(ys:List c.D)(r:List c.D)(h:o6 c xs i ys=some r) :
 D1 (.GQ (2*c.size) [.o,.v,.v]) [.o .one (enc (.l c) xs),.v .one (enc .i i),.v .one (enc (.l c) ys)] .one (enc (.l c) r) []:=by
 unfold o6 at h;split at h
 .rename_i hc;cases h;intro Rn hRn;refine hRn _ _ _ _ _ ?_;show Xj (2*c.size) _ _ _ _;unfold Xj;refine⟨by omega,?_⟩;rw [if_pos (by omega)];refine⟨_,xs.map (enc c),_,ys.map (enc c),i,rfl,rfl,?_,rfl,?_,ET hf _,ET hf _,hc.1,by simpa using hc.2.1,by simpa using hc.2.2.1,by simpa using hc.2.2.2,rfl,?_,rfl⟩
  .simp [eOf]
  .simp [eOf]
  .show [T.sl c.size ((xs.take i.toNat++ys++xs.drop i.toNat).map (enc c))]=_;simp [List.map_take,List.map_drop]
 .cases h
noncomputable def AA6(c:C)(hf:Rm c=true):GF:=
 ⟨.GQ (2*c.size) [.o,.v,.v],[.o (.l c),.v .i,.v (.l c)],.ret [.l c],fun a=>o6 c a.1 a.2.1 a.2.2.1,rfl,fun a r h=>rl hf _ _ _ r h⟩
structure bq(ps:List PK)(rk:RK) where
 x:BD
 d:A ps->Option (Tu (rk.cs++F5 ps))
 ms:B5 x=ps.map PK.md
 ok:∀a r,d a=some r->D1 x (aVs ps a) rk.sh ((Jg _ r).take rk.cs.length).flatten ((Jg _ r).drop rk.cs.length)
def bq.gf{ps:List PK}{rk:RK}(r:bq ps rk):GF:=⟨r.x,ps,rk,r.d,r.ms,r.ok⟩
def bq.of(g:GF):bq g.ps g.rk:=⟨g.x,g.d,g.ms,g.ok⟩
def bq.nil(ps:List PK)(rk:RK):bq ps rk:=⟨.GQ 1 (ps.map PK.md),fun _=>none,rfl,fun _ _ h=>by cases h⟩
end Lv
namespace Lv
open Go (IntKind BinOp UnOp)
noncomputable def bg{γ:Type}(x y:BQ)(X:Option γ):Option γ:=eqv x.Lg y.Lg (eqv x.at_ y.at_ (eqv x.cD y.cD X))
theorem bh{γ:Type}(x:BQ)(X:Option γ):bg x x X=X:=by unfold bg;simp only [Bj]
noncomputable def IA{γ:Type}(x y:AH)(X:Option γ):Option γ:=eqv x.b_ y.b_ (eqv x.i_ y.i_ (eqv x.h_ y.h_ X))
theorem KF{γ:Type}(x:AH)(X:Option γ):IA x x X=X:=by unfold IA;simp only [Bj]
noncomputable def bc{γ:Type}(x y:AD)(X:Option γ):Option γ:=eqv x.Level y.Level (eqv x.Ah y.Ah (eqv x.Id y.Id (eqv x.As y.As X)))
theorem bf{γ:Type}(x:AD)(X:Option γ):bc x x X=X:=by unfold bc;simp only [Bj]
noncomputable def oF{γ:Type}(x y:AI)(X:Option γ):Option γ:=eqv x.Id y.Id (eqv x.A4 y.A4 (eqv x.CB y.CB (eqv x.As y.As (eqv x.CX y.CX (eqv x.Since y.Since (eqv x.Ah y.Ah (eqv x.State y.State (eqv x.BW y.BW (eqv x.CA y.CA X)))))))))
theorem KE{γ:Type}(x:AI)(X:Option γ):oF x x X=X:=by unfold oF;simp only [Bj]
def A9:List U:=[.nil,.int .i64 0,.int .i64 0,.int .i64 0,.int .i64 0,.int .i64 0,.int .i64 0,.int .i64 0,.int .i64 0,.int .i64 0,.int .i64 0,.nil,.nil,.nil,.nil]
def BM:List U:=[.int .i64 0,.int .i64 0,.int .i64 0,.int .i64 0,.int .i64 0,.int .i64 0,.int .i64 0,.int .i64 0,.int .i64 0,.int .i64 0]
def B2:List U:=[.nil,.int .i64 0,.int .i64 0,.int .i64 0,.int .i64 0,.int .i64 0,.int .i64 0,.int .i64 0,.int .i64 0]
def Cn:List U:=[.int .i64 0,.int .i64 0,.int .i64 0,.int .i64 0,.int .i64 0,.nil,.nil]
def Bf:List U:=[.int .i64 0,.int .i64 0,.int .i64 0,.int .i64 0,.int .i64 0]
def C7:List U:=[.int .i64 0,.int .i64 0,.int .i64 0,.int .i64 0]
def vm:List U:=[.nil,.int .i64 0,.bool false]
noncomputable def ev2{α0 α1 γ:Type}(a0:α0)(a1:α1)(X:Option γ):Option γ:=eqv a0 a0 (eqv a1 a1 X)
theorem K2{α0 α1 γ:Type}(a0:α0)(a1:α1)(X:Option γ):ev2 a0 a1 X=X:=by unfold ev2;simp only [Bj]
noncomputable def ev3{α0 α1 α2 γ:Type}(a0:α0)(a1:α1)(a2:α2)(X:Option γ):Option γ:=eqv a0 a0 (eqv a1 a1 (eqv a2 a2 X))
theorem K3{α0 α1 α2 γ:Type}(a0:α0)(a1:α1)(a2:α2)(X:Option γ):ev3 a0 a1 a2 X=X:=by unfold ev3;simp only [Bj]
noncomputable def ev4{α0 α1 α2 α3 γ:Type}(a0:α0)(a1:α1)(a2:α2)(a3:α3)(X:Option γ):Option γ:=eqv a0 a0 (eqv a1 a1 (eqv a2 a2 (eqv a3 a3 X)))
theorem K4{α0 α1 α2 α3 γ:Type}(a0:α0)(a1:α1)(a2:α2)(a3:α3)(X:Option γ):ev4 a0 a1 a2 a3 X=X:=by unfold ev4;simp only [Bj]
noncomputable def ev5{α0 α1 α2 α3 α4 γ:Type}(a0:α0)(a1:α1)(a2:α2)(a3:α3)(a4:α4)(X:Option γ):Option γ:=eqv a0 a0 (eqv a1 a1 (eqv a2 a2 (eqv a3 a3 (eqv a4 a4 X))))
theorem K5{α0 α1 α2 α3 α4 γ:Type}(a0:α0)(a1:α1)(a2:α2)(a3:α3)(a4:α4)(X:Option γ):ev5 a0 a1 a2 a3 a4 X=X:=by unfold ev5;simp only [Bj]
noncomputable def ev6{α0 α1 α2 α3 α4 α5 γ:Type}(a0:α0)(a1:α1)(a2:α2)(a3:α3)(a4:α4)(a5:α5)(X:Option γ):Option γ:=eqv a0 a0 (eqv a1 a1 (eqv a2 a2 (eqv a3 a3 (eqv a4 a4 (eqv a5 a5 X)))))
theorem K6{α0 α1 α2 α3 α4 α5 γ:Type}(a0:α0)(a1:α1)(a2:α2)(a3:α3)(a4:α4)(a5:α5)(X:Option γ):ev6 a0 a1 a2 a3 a4 a5 X=X:=by unfold ev6;simp only [Bj]
noncomputable def ev7{α0 α1 α2 α3 α4 α5 α6 γ:Type}(a0:α0)(a1:α1)(a2:α2)(a3:α3)(a4:α4)(a5:α5)(a6:α6)(X:Option γ):Option γ:=eqv a0 a0 (eqv a1 a1 (eqv a2 a2 (eqv a3 a3 (eqv a4 a4 (eqv a5 a5 (eqv a6 a6 X))))))
theorem K7{α0 α1 α2 α3 α4 α5 α6 γ:Type}(a0:α0)(a1:α1)(a2:α2)(a3:α3)(a4:α4)(a5:α5)(a6:α6)(X:Option γ):ev7 a0 a1 a2 a3 a4 a5 a6 X=X:=by unfold ev7;simp only [Bj]
noncomputable def ev8{α0 α1 α2 α3 α4 α5 α6 α7 γ:Type}(a0:α0)(a1:α1)(a2:α2)(a3:α3)(a4:α4)(a5:α5)(a6:α6)(a7:α7)(X:Option γ):Option γ:=eqv a0 a0 (eqv a1 a1 (eqv a2 a2 (eqv a3 a3 (eqv a4 a4 (eqv a5 a5 (eqv a6 a6 (eqv a7 a7 X)))))))
theorem K8{α0 α1 α2 α3 α4 α5 α6 α7 γ:Type}(a0:α0)(a1:α1)(a2:α2)(a3:α3)(a4:α4)(a5:α5)(a6:α6)(a7:α7)(X:Option γ):ev8 a0 a1 a2 a3 a4 a5 a6 a7 X=X:=by unfold ev8;simp only [Bj]
def orE{ρ:Type}(a b:Option ρ):Option ρ:=match a with|some r=>some r|none=>b
noncomputable def GF.orE(g:GF)(d d2:A g.ps->Option (Tu (g.rk.cs++F5 g.ps)))(hd:∀a,d a=Lv.orE (g.d a) (d2 a))
 (hk:∀a r,d2 a=some r->D1 g.x (aVs g.ps a) g.rk.sh ((Jg _ r).take g.rk.cs.length).flatten ((Jg _ r).drop g.rk.cs.length)):GF:=
 ⟨g.x,g.ps,g.rk,d,g.ms,fun a r h=>by
  rw [hd] at h;unfold Lv.orE at h;split at h
  .rename_i r' h';cases h;exact g.ok a _ h'
  .exact hk a r h⟩
namespace Y
section
variable{R:List GF}
def qn(l:List (YOp R)):List (Option (Nat×Bool)×YOp R):=l.map fun o=>(none,o)
def qf(g:Nat)(l:List (YOp R)):List (Option (Nat×Bool)×YOp R):=l.map fun o=>(some (g,false),o)
def qt(g:Nat)(l:List (YOp R)):List (Option (Nat×Bool)×YOp R):=l.map fun o=>(some (g,true),o)
def qr(l:List (List (Option (Nat×Bool)×YOp R)))(CK:List Nat):DQ R:=.region l.flatten CK
def q1(l:List (YOp R))(CK:List Nat):DQ R:=.region (qn l) CK
def qdl(r:QU R):Nat->List (Option (Nat×Bool)×YOp R)->QU R
 |_,[]=>r
 |i,o::l=>.op i o.1 [] o.2 (qdl r (i+1) l)
def qd(i:Nat)(l:List (List (Option (Nat×Bool)×YOp R)))(r:QU R):QU R:=qdl r i l.flatten
def qm(d s:Nat):YOp R:=.mv d (.tmp s)
def qa(d s:Nat):YOp R:=.as d (.tmp s)
def qo(d o s:Nat):YOp R:=.fa d o (.tmp s)
def ql(d s:Nat):YOp R:=.ld d none (.tmp s)
def qL(d n s:Nat):YOp R:=.ld d (some n) (.tmp s)
def qb(d:Nat)(o:BinOp)(x y:Nat):YOp R:=.bin d .num o (.tmp x) (.tmp y)
def qi(d:Nat)(o:BinOp)(x:Nat)(n:Int):YOp R:=.bin d .num o (.tmp x) (.k (.int .i64 n))
def qx(d s:Nat):YOp R:=.un d .not (.tmp s)
def qp(d c x:Nat):YOp R:=.pick d (.tmp c) (.k (.bool true)) (.tmp x)
def qq(d c x:Nat):YOp R:=.pick d (.tmp c) (.tmp x) (.k (.bool false))
def qc(d:Nat)(g:GF)(hf:([]:List Nat).map (fun n=>(R[n]?).map GF.x)=(fX g.ps).map some)(l:List Nat):YOp R:=.call d g [] hf (l.map .tmp)
def qz(d s:Nat):YOp R:=.len d (.tmp s)
def qe(d:Nat)(c:C)(x i:Nat):YOp R:=.ia d c (.tmp x) (.tmp i)
def qk(d:Nat)(n:Int):YOp R:=.mv d (.k (.int .i64 n))
def qK(d:Nat)(n:Int):YOp R:=.as d (.k (.int .i64 n))
def qB(d:Nat)(b:Bool):YOp R:=.as d (.k (.bool b))
def qw(n x v:Nat):YOp R:=.st n (.tmp x) (.tmp v)
def qu(d s:Nat):YOp R:=.box d (.tmp s)
def qj(n:Int):YO:=.k (.int .i64 n)
instance (n:Nat):OfNat YO n:=⟨.tmp n⟩
def kpF:Nat->Nat->Nat->List Nat
 |0,_,_=>[]
 |f+1,i,n=>match Nat.beq n 0 with|true=>[]|false=>match Nat.testBit n 0 with|true=>i::kpF f (i+1) (n / 2)|false=>kpF f (i+1) (n / 2)
def wU:Nat->List (Nat->Nat->YOp R)->List (YOp R)
 |_,[]=>[]
 |0,f::l=>f 0 0::wU 1 l
 |k+1,f::l=>f (k+1) k::wU (k+2) l
def wn(d:Nat)(l:List (Nat->Nat->YOp R)):List (Option (Nat×Bool)×YOp R):=qn (wU d l)
def wf(g d:Nat)(l:List (Nat->Nat->YOp R)):List (Option (Nat×Bool)×YOp R):=qf g (wU d l)
def wt(g d:Nat)(l:List (Nat->Nat->YOp R)):List (Option (Nat×Bool)×YOp R):=qt g (wU d l)
def w1(d:Nat)(l:List (Nat->Nat->YOp R))(CK:List Nat):DQ R:=q1 (wU d l) CK
def sw(d:Nat)(l:List (Nat->Nat->YOp R))(CK:List Nat)(b:DQ R):DQ R:=.seq (q1 (wU d l) CK) b
def sq(l:List (YOp R))(CK:List Nat)(b:DQ R):DQ R:=.seq (q1 l CK) b
def sr(l:List (List (Option (Nat×Bool)×YOp R)))(CK:List Nat)(b:DQ R):DQ R:=.seq (qr l CK) b
def wm(s d _p:Nat):YOp R:=.mv d (.tmp s)
def wM(d p:Nat):YOp R:=.mv d (.tmp p)
def wo(o s d _p:Nat):YOp R:=.fa d o (.tmp s)
def wO(o d p:Nat):YOp R:=.fa d o (.tmp p)
def wl(s d _p:Nat):YOp R:=.ld d none (.tmp s)
def wL(d p:Nat):YOp R:=.ld d none (.tmp p)
def wk(n s d _p:Nat):YOp R:=.ld d (some n) (.tmp s)
def wK(n d p:Nat):YOp R:=.ld d (some n) (.tmp p)
def wz(s d _p:Nat):YOp R:=.len d (.tmp s)
def wZ(d p:Nat):YOp R:=.len d (.tmp p)
def wx(s d _p:Nat):YOp R:=.un d .not (.tmp s)
def wX(d p:Nat):YOp R:=.un d .not (.tmp p)
def wb(o:BinOp)(x y d _p:Nat):YOp R:=.bin d .num o (.tmp x) (.tmp y)
def wB(o:BinOp)(x d p:Nat):YOp R:=.bin d .num o (.tmp x) (.tmp p)
def wi(o:BinOp)(x:Nat)(n:Int)(d _p:Nat):YOp R:=.bin d .num o (.tmp x) (.k (.int .i64 n))
def wI(o:BinOp)(n:Int)(d p:Nat):YOp R:=.bin d .num o (.tmp p) (.k (.int .i64 n))
def wr(c x d _p:Nat):YOp R:=.pick d (.tmp c) (.k (.bool true)) (.tmp x)
def wR(c d p:Nat):YOp R:=.pick d (.tmp c) (.k (.bool true)) (.tmp p)
def wq(c x d _p:Nat):YOp R:=.pick d (.tmp c) (.tmp x) (.k (.bool false))
def wQ(c d p:Nat):YOp R:=.pick d (.tmp c) (.tmp p) (.k (.bool false))
def we(c:C)(x i d _p:Nat):YOp R:=.ia d c (.tmp x) (.tmp i)
def wE(c:C)(x d p:Nat):YOp R:=.ia d c (.tmp x) (.tmp p)
def wc(g:GF)(hf:([]:List Nat).map (fun n=>(R[n]?).map GF.x)=(fX g.ps).map some)(l:List YO)(d _p:Nat):YOp R:=.call d g [] hf l
def wY(g:GF)(hf:([]:List Nat).map (fun n=>(R[n]?).map GF.x)=(fX g.ps).map some)(d p:Nat):YOp R:=.call d g [] hf [.tmp p]
def wj(n:Int)(d _p:Nat):YOp R:=.mv d (.k (.int .i64 n))
def wh(f:Nat->YOp R)(d _p:Nat):YOp R:=f d
def Kp(n:Nat):List Nat:=kpF 300 0 n
def cv(n:Nat)(c:C):Bool×Nat×Sh×List AL:=(false,n,.one,[.val c none])
def ca(n:Nat)(c:C):Bool×Nat×Sh×List AL:=(false,n,.agg,[.val c none])
def cx(n:Nat)(c:C):Bool×Nat×Sh×List AL:=(true,n,.one,[.val c none])
def cn(c:Nat)(ke:List Nat)(t:DQ R):DQ R:=.cond c [] ke t .skip
def ce(c:Nat)(kt ke:List Nat)(id:Nat):DQ R:=.cond c kt ke .skip (.exit id)
def bl(id:Nat)(c:Cut)(b:DQ R):DQ R:=.block id (.loop c b)
end
end Y
end Lv
