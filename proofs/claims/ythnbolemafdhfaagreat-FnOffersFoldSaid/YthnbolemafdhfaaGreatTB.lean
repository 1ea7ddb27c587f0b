/-
  The typed light machine is right, fifth part: what comes back from calls.
-/
import Derived.Test.YthnbolemafdhfaaGreatTA
set_option linter.unusedVariables false
set_option linter.unusedSimpArgs false
set_option linter.unusedSectionVars false
namespace Lv
open Go (IntKind BinOp UnOp)
theorem jU{γ:Type}{b:Bool}{x y:Option γ}{r:γ}(h:br b x y=some r):(b=true/\x=some r)\/(b=false/\y=some r):=by
 rw [yo] at h;cases b with
 |true=>exact .inl ⟨rfl,h⟩
 |false=>exact .inr ⟨rfl,h⟩
theorem G0{γ:Type}{p:Prop} [Decidable p] {x:Option γ} {r:γ} (h:gd p x=some r):p/\x=some r:=by
 rw [rW] at h;split at h
 .rename_i hp;exact⟨hp,h⟩
 .cases h
theorem NR{α γ:Type}{o:Option α}{f:α->Option γ}{r:γ}(h:bd o f=some r):∃a,o=some a/\f a=some r:=ob (fS o f▸h)
theorem OY(X:List (List T))(i j:Nat)(o:T)(k:Nat):(EM X i j o)[k]?=if k=i then (X[i]?).map (fun row=>row.set j o) else X[k]?:=by
 unfold EM;rw [List.getElem?_set];by_cases h:i=k
 .subst h;simp only [if_true];split
  .rename_i hl;simp [List.getD_eq_getElem?_getD,List.getElem?_eq_getElem hl]
  .rename_i hl;rw [List.getElem?_eq_none (by omega)];rfl
 .rw [if_neg h,if_neg (fun h'=>h h'.symm)]
theorem pT(X:List (List T))(i j i2 j2:Nat)(o t:T)(h:j2≠j):EM (EM X i2 j2 t) i j o=EM (EM X i j o) i2 j2 t:=by
 apply List.ext_getElem?;intro k;simp only [OY];by_cases h1:k=i
 .subst h1;simp only [if_true];by_cases h2:k=i2
  .subst h2;simp only [if_true];cases X[k]? with
   |none=>rfl
   |some row=>simp only [Option.map_some];rw [List.set_comm _ _ h]
  .rw [if_neg h2,if_neg h2]
 .rw [if_neg h1];by_cases h2:k=i2
  .subst h2;simp only [if_true,if_neg h1]
  .simp only [if_neg h1,if_neg h2]
theorem pU(X:List (List T))(i j:Nat)(o t:T):EM (EM X i j t) i j o=EM X i j o:=by
 apply List.ext_getElem?;intro k;simp only [OY];by_cases h1:k=i
 .subst h1;simp only [if_true];cases X[k]? with
  |none=>rfl
  |some row=>simp
 .simp only [if_neg h1]
namespace Y
section
variable{R:List GF}{ρ:Type}
theorem Wg(i j:Nat)(o:T):∀(hs:List (Nat×Nat)) (X:List (List T)),(∀p∈hs,p.2≠j)->EM (GL X hs) i j o=GL (EM X i j o) hs
 | [],X,_=>rfl
 |(a,b)::hs,X,h=>by
  simp only [GL];rw [Wg i j o hs _ (fun p hp=>h p (by simp [hp])),pT X i j a b o .top (h (a,b) (by simp))]
theorem uf{c:C}{xs:List c.D}{i j:Nat}{o:U}{x x':c.D}(hx:xs[i]?=some x)(h:ofC c ((cells c x).set j o)=some x'):EM (xs.map (enc c)) i j o.fg=(xs.set i x').map (enc c):=by
 have h1:i<xs.length:=(List.getElem?_eq_some_iff.1 hx).1;apply List.ext_getElem?;intro k;simp only [OY,List.getElem?_map,List.getElem?_set];by_cases hk:k=i
 .subst hk;simp only [if_true,hx,Option.map_some,h1,Option.some.injEq];rw [D6 h,CL,List.map_set]
 .rw [if_neg hk,if_neg (fun h=>hk h.symm)]
theorem Gx:∀{ls:List AF} {us:List U} {S:St} {K:St->Option ρ} {r:ρ},DE S ls us K=some r ->
 ∃S',Lv.DE (S.fg R) (ls.map (AF.fg R)) (us.map U.fg)=some (S'.fg R)/\AV S S'/\K S'=some r
 | [],[],S,K,r,h=>⟨S,rfl,AV.refl _,h⟩
 | [],u::us,S,K,r,h=>by simp [DE] at h
 |l::ls,[],S,K,r,h=>by cases l <;> simp [DE] at h
 |l::ls,o::us,S,K,r,h=>by
  cases l with
  |t x=>
   have h:DE S ls us K=some r:=h;obtain⟨S',h1,h2,h3⟩:=Gx h;exact⟨S',h1,h2,h3⟩
  |al q sub=>
   cases sub with
   |some p=>simp [DE] at h
   |none=>
    have h:DE (S.Aa q (.ow o)) ls us K=some r:=h;obtain⟨S',h1,h2,h3⟩:=Gx h;refine⟨S',?_,(AV.Aa _ _ _).trans h2,h3⟩;rw [DB] at h1;exact h1
  |vw s c xs=>
   cases s with
   |old k=>simp [DE] at h
   |own q p=>
    cases p with
    |none=>simp [DE] at h
    |some p=>
     obtain⟨i,j⟩:=p;simp only [DE] at h;split at h
     .rename_i c' rows i' j' hs hat;split at h
      .rename_i hj;obtain⟨rfl,hall⟩:=hj;obtain⟨rfl,h⟩:=G0 h;obtain⟨x,hx,h⟩:=NR h;split at h
       .rename_i x' hx';obtain⟨S',h1,h2,h3⟩:=Gx h;refine⟨S',?_,((AV.Aa _ _ _).trans (AV.kill _ _)).trans h2,h3⟩;have hne:∀p∈hs,p.2≠j':=by
         intro p hp;have:=List.all_eq_true.1 hall p hp;intro he;simp [he] at this
        simp only [List.map_cons,AF.fg,Lv.DE,Ey,hat,Option.map_some];rw [<-E6 (JV q),DB] at h1;rw [<-h1];congr 3;simp only [GL];rw [Wg _ _ _ hs _ hne,pU,uf hx hx'];cases hs with
        |nil=>simp only [AF.fg,U.fg,GL]
        |cons p hs=>simp only [AF.fg]
       .cases h
      .cases h
     .cases h
  |_=>simp [DE] at h
theorem xN(S0 S:Lv.St)(ms:List Md)(e:Lv.Ent)(es:List Lv.Ent)(outs:List (List T)):Lv.CQ S0 S (.b::ms) (e::es) outs=match zD e,outs with
 |some id,o::outs=>(match Lv.get S0.bx id,Lv.get S.bx id with
  |some ls,some ls1=>if o.length=ls1.length then Lv.CQ S0 { S with bx:=Lv.put S.bx id (o.map (Lv.Br (Lv.BV ls)))} ms es outs else none
  |_,_=>none)
 |_,_=>none:=by
 obtain⟨sh,cs⟩:=e;cases sh <;> try rfl
 rcases cs with _|⟨l,_|⟨l2,ls⟩⟩
 .rfl
 .cases l <;> try rfl
  rename_i id off;cases off <;> cases outs <;> rfl
 .cases l <;> try rfl
  rename_i id off;cases off <;> rfl
theorem yk{S0 S:St}{c:C}{ks:List PK}{e:En}{es:List En}{outs:List (List U)}{K:St->Option ρ}:CQ S0 S (.b c::ks) (e::es) outs K=match bp0 e,outs with
 |some id,o::outs=>(match get S0.bx id,get S.bx id with
  |some ls,some ls1=>if o.length=ls1.cs.length then CQ S0 (S.HP id (o.map (Br (BV ls.cs)))) ks es outs K else none
  |_,_=>none)
 |_,_=>none:=by
 obtain⟨sh,cs⟩:=e;cases sh <;> try rfl
 rcases cs with _|⟨l,_|⟨l2,ls⟩⟩
 .rfl
 .cases l <;> try rfl
  rename_i id off;cases off <;> cases outs <;> rfl
 .cases l <;> try rfl
  rename_i id off;cases off <;> rfl
theorem Gs{S0:St}:∀{ks:List PK} {es:List En} {outs:List (List U)} {S:St} {K:St->Option ρ} {r:ρ},CQ S0 S ks es outs K=some r ->
 ∃S',Lv.CQ (S0.fg R) (S.fg R) (ks.map PK.md) (es.map (En.fg R)) (outs.map fun o=>o.map U.fg)=some (S'.fg R)/\AV S S'/\K S'=some r
 | [],es,[],S,K,r,h=>by
  refine⟨S,?_,AV.refl _,?_⟩
  .cases es <;> rfl
  .cases es <;> exact h
 | [],es,o::outs,S,K,r,h=>by cases es <;> simp [CQ] at h
 |k::ks,[],outs,S,K,r,h=>by cases outs <;> simp [CQ] at h
 |k::ks,e::es,outs,S,K,r,h=>by
  cases k with
  |b c=>
   rw [yk] at h;simp only [List.map_cons,PK.md];rw [xN,qW];split at h
   .rename_i id o outs' hb;rw [hb];simp only [List.map_cons,IP];split at h
    .rename_i ls ls1 hl hl1;rw [hl,hl1];split at h
     .rename_i hlen;obtain⟨S',h1,h2,h3⟩:=Gs h;refine⟨S',?_,(AV.HP _ _ _).trans h2,h3⟩;simp only [Option.map_some,List.length_map,hlen,if_true];rw [Lu,IZ] at h1;rw [G6];exact h1
     .cases h
    .cases h
   .cases h
  |m c=>
   cases outs with
   |nil=>simp [CQ] at h
   |cons o outs=>
    have h:DE S e.cs o (fun S'=>CQ S0 S' ks es outs K)=some r:=h;obtain⟨S1,h1,h2,h3⟩:=Gx (R:=R) h;obtain⟨S',h4,h5,h6⟩:=Gs h3;refine⟨S',?_,h2.trans h5,h6⟩;simp only [List.map_cons,PK.md,Lv.CQ,En.fg,h1];exact h4
  |v c=>
   have h:CQ S0 S ks es outs K=some r:=by cases outs <;> exact h
   obtain⟨S',h1,h2,h3⟩:=Gs h;refine⟨S',?_,h2,h3⟩;cases outs <;> exact h1
  |p c=>
   have h:CQ S0 S ks es outs K=some r:=by cases outs <;> exact h
   obtain⟨S',h1,h2,h3⟩:=Gs h;refine⟨S',?_,h2,h3⟩;cases outs <;> exact h1
  |o c=>
   have h:CQ S0 S ks es outs K=some r:=by cases outs <;> exact h
   obtain⟨S',h1,h2,h3⟩:=Gs h;refine⟨S',?_,h2,h3⟩;cases outs <;> exact h1
  |f x l=>
   have h:CQ S0 S ks es outs K=some r:=by cases outs <;> exact h
   obtain⟨S',h1,h2,h3⟩:=Gs h;refine⟨S',?_,h2,h3⟩;cases outs <;> exact h1
theorem UP{S:St}{d:Nat}{ls:List AF}{K:St->Option ρ}{r:ρ}(h:Ib S d ls K=some r):∃S',Lv.Ib (S.fg R) d (ls.map (AF.fg R))=some (S'.fg R)/\AV S S'/\K S'=some r:=by
 unfold Ib at h;split at h
 .cases h
 .rename_i hm;have hp:d∉(S.fg R).pin:=Gm.1 hm;refine⟨_,?_,((AV.kill _ _).trans (AV.Em _ _ _ _)).trans (AV.HP _ _ _),h⟩;unfold Lv.Ib;rw [if_neg hp,Lu,Fq,<-E6 (q':=fun l=>Lv.B5 d l||Lv.CV d l) (fun l=>by rw [OK,OJ])];rfl
theorem xM{S:St}{e:En}{k:Nat}(h:Tj S e=some k):Lv.Tj (S.fg R) (e.fg R)=some k:=by
 have gen:∀(cs:List AF),(if (CR (BV cs) cs).isSome=true then some (BV cs) else none)=some k->(if (Lv.CR (Lv.BV (cs.map (AF.fg R))) (cs.map (AF.fg R))).isSome=true then some (Lv.BV (cs.map (AF.fg R))) else none)=some k:=by
  intro cs h;rw [G6];cases hb:CR (BV cs) cs with
  |none=>rw [hb] at h;simp at h
  |some us=>rw [H8 hb];rw [hb] at h;simpa using h
 obtain⟨sh,cs⟩:=e;cases sh <;> try exact gen cs h
 rcases cs with _|⟨l,_|⟨l2,ls⟩⟩
 .exact gen [] h
 .have g1:=gen [l];cases l with
  |bp id off=>
   simp only [Tj] at h;simp only [En.fg,List.map_cons,List.map_nil,AF.fg,Lv.Tj,IP];split at h
   .rename_i ls hl;rw [hl];exact gen _ h
   .cases h
  |_=>exact g1 h
 .have g1:=gen (l::l2::ls);cases l <;> exact g1 h
theorem la{g:GF}{S0:St}{es:List En}{k lab:Nat}(h:Tl g.ps S0 es k=some lab):Lv.Tl g.x (S0.fg R) (es.map (En.fg R)) k=some lab:=by
 unfold Tl at h;unfold Lv.Tl;rw [g.ms];simp only [List.getElem?_map];split at h
 .rename_i e he;rw [he];simp only [Option.map_some];split at h
  .cases h
  .rename_i hk;rw [if_neg]
   .exact xM h
   .intro hc;cases hp:g.ps[k]? with
    |none=>rw [hp] at hc;simp at hc
    |some q=>rw [hp] at hc;cases q <;> simp [PK.md] at hc;exact hk _ hp
 .cases h
theorem Sa:∀(cs:List C) (x:Tu cs),KI cs x=(J6 cs x).map fun l=>l.map U.fg
 | [],_=>rfl
 | [c],x=>congrArg (fun z=>[z]) (CL c x)
 |c::c'::cs,x=>by simp only [KI,J6,List.map_cons,CL,Sa (c'::cs) x.2]
theorem xX{d:Nat}{g:GF}{es:List En}{S0 S:St}{x:Tu (g.rk.cs++GY g.ps)}{K:St->Option ρ}{r:ρ}(h:post d g es S0 S x K=some r) :
 ∃S',Lv.post d g.x (es.map (En.fg R)) (S0.fg R) (S.fg R) g.rk.sh ((KI _ x).take g.rk.cs.length).flatten ((KI _ x).drop g.rk.cs.length)=some (S'.fg R)/\AV S S'/\K S'=some r:=by
 unfold post at h;obtain⟨S1,h1,h2,h3⟩:=Gs (R:=R) h;unfold Lv.post;rw [g.ms,Sa,<-List.map_drop,h1,<-List.map_take,<-List.map_flatten];generalize ((J6 (g.rk.cs++GY g.ps) x).take g.rk.cs.length).flatten=us at h3;dsimp only;cases hr:g.rk with
 |ptr k c=>
  rw [hr] at h3;simp only [RK.sh];dsimp only at h3;split at h3
  .rename_i lab hl;rw [la hl];obtain⟨S2,h4,h5,h6⟩:=UP (R:=R) h3;rw [IZ] at h4;exact⟨S2,h4,h2.trans h5,h6⟩
  .cases h3
 |vw k c=>
  rw [hr] at h3;simp only [RK.sh];dsimp only at h3;split at h3
  .rename_i lab hl;rw [la hl];obtain⟨S2,h4,h5,h6⟩:=RD (R:=R) h3;rw [IZ] at h4;exact⟨S2,h4,h2.trans h5,h6⟩
  .cases h3
 |ret cs=>
  rw [hr] at h3;dsimp only at h3;obtain⟨S2,h4,h5,h6⟩:=RD (R:=R) h3;rw [Pf] at h4;refine⟨S2,?_,h2.trans h5,h6⟩;simp only [RK.sh];cases hs:eB (cs.map wC) with
  |ptr k=>exfalso;revert hs;unfold eB;split <;> simp
  |vw k=>exfalso;revert hs;unfold eB;split <;> simp
  |one=>rw [hs] at h4;exact h4
  |agg=>rw [hs] at h4;exact h4
  |tup ns=>rw [hs] at h4;exact h4
theorem aG{d:Nat}{g:GF}{fs:List Nat}{es:List En}{S:St}{K:St->Option ρ}{r:ρ}(hA:Al R fs (fX g.ps))(h:ji d g fs es S K=some r) :
 ∃S1 vs cs outs S',Lv.pre g.x (es.map (En.fg R)) (S.fg R)=some (S1,vs)/\Ev g.x vs g.rk.sh cs outs/\Lv.post d g.x (es.map (En.fg R)) (S.fg R) S1 g.rk.sh cs outs=some (S'.fg R)/\AV S S'/\K S'=some r:=by
 unfold ji at h;split at h
 .cases h
 .rename_i hc;split at h
  .rename_i S1 a h1;obtain⟨x,hx,h⟩:=NR h;obtain⟨h2,h3⟩:=qN hA h1;obtain⟨S',h4,h5,h6⟩:=xX (R:=R) h;refine⟨_,_,_,_,S',?_,g.ok a x hx,h4,h3.trans h5,h6⟩;unfold Lv.pre;rw [g.ms];have:=aK (R:=R) g.ps [] es;rw [List.map_nil] at this;rw [this,hc,if_neg (by decide),h2]
  .cases h
end
end Y
end Lv
namespace Lv
open Go (IntKind BinOp UnOp)
namespace Y
section
variable{R:List GF}{ρ:Type}
theorem CC{S:St}{x:YO}{l:AF}(h:S.one x=some l):(S.fg R).one (x.er R)=some (AF.fg R l):=by
 unfold St.one at h;split at h
 .rename_i l' hr;cases h;simp only [Lv.St.one,FP hr,En.fg,List.map_cons,List.map_nil]
 .cases h
theorem Hk{S:St}{x:YO}{u:U}(h:S.sc x=some u):(S.fg R).sc (x.er R)=some u.fg:=by
 unfold St.sc jE at h;split at h
 .rename_i o l' hr;cases h;simp only [Lv.St.sc,FP hr,En.fg,List.map_cons,List.map_nil,AF.fg,Lv.jE]
 .cases h
theorem G8{S:St}{x:YO}{n:Int}(h:S.nat x=some n):(S.fg R).nat (x.er R)=some n:=by
 unfold St.nat at h;split at h
 .rename_i u hu;simp only [Lv.St.nat,Hk hu];cases u <;> simp [AAA] at h <;> subst h <;> rfl
 .cases h
theorem y4{k:Kd}{a b:U}{c:Bool}(h:eqU k a b=some c):eqT k a.fg b.fg=some c:=by
 cases k <;> cases a <;> cases b <;> simp only [eqU] at h <;> first|cases h;done|exact h
theorem lQ:∀{ks:List Kd} {as bs:List U} {c:Bool},b0 ks as bs=some c->fi ks (as.map U.fg) (bs.map U.fg)=some c
 | [],[],[],c,h=>h
 | [],[],b::bs,c,h=>by simp [b0] at h
 | [],a::as,bs,c,h=>by cases bs <;> simp [b0] at h
 |k::ks,[],bs,c,h=>by cases bs <;> simp [b0] at h
 |k::ks,a::as,[],c,h=>by simp [b0] at h
 |k::ks,a::as,b::bs,c,h=>by
  simp only [b0] at h;split at h
  .rename_i x y h1 h2;cases h;simp only [List.map_cons,fi,y4 h1,lQ h2]
  .cases h
theorem Zi:∀{ls:List AF} {us:List U},NJ ls=some us->Lv.NJ (ls.map (AF.fg R))=some (us.map U.fg)
 | [],us,h=>by cases h;rfl
 |l::ls,us,h=>by
  cases l with
  |t x=>
   simp only [NJ] at h;split at h
   .rename_i us' h1;cases h;simp only [List.map_cons,AF.fg,Lv.NJ,Zi h1,Option.map_some]
   .cases h
  |_=>simp [NJ] at h
theorem rX{cst:Bool}{p:Prop} [Decidable p] {x:Option ρ} {r:ρ} (h:gdc cst p x=some r):p/\x=some r:=by
 cases cst with
 |true=>simp only [gdc] at h;split at h <;> simp_all
 |false=>exact G0 h
theorem xF{cst:Bool}{op:BinOp}{k:IntKind}{a b:Int}{K:U->Option ρ}{r:ρ}(h:zA cst op k a b K=some r):∃u,QP op k a b=some (U.fg u)/\K u=some r:=by
 cases op <;> simp only [zA] at h <;> first
  |exact⟨_,rfl,h⟩
  |(obtain⟨h1,h⟩:=rX h;exact⟨_,by simp only [QP];rw [if_neg h1];rfl,h⟩)
  |cases h
theorem uh{cst:Bool}{op:BinOp}{k:IntKind}{a b:Int}{K:U->Option ρ}{r:ρ}(h:shU cst op k a b K=some r):∃u,jF op k a b=some (U.fg u)/\K u=some r:=by
 cases op <;> simp only [shU] at h <;> first
  |cases h;done
  |(obtain⟨h1,h⟩:=rX h;exact⟨_,by simp only [jF];rw [if_neg h1];rfl,h⟩)
theorem vJ(n:Int):(U.u8 (toB n)).fg=.int .u8 (IntKind.u8.wrap n):=by simp only [U.fg,pk]
theorem yp{op:BinOp}{a b:Int}{K:U->Option ρ}{r:ρ}(h:byU op a b K=some r):∃u,QP op .u8 a b=some (U.fg u)/\K u=some r/\xH op=false:=by
 cases op <;> simp only [byU] at h <;> first
  |cases h;done
  |exact⟨_,by rw [vJ];rfl,h,rfl⟩
  |exact⟨_,rfl,h,rfl⟩
theorem Xf{op:BinOp}{k k':IntKind}{a b:Int}:RT op (.int k a) (.int k' b)=if xH op=true then jF op k a b else if k=k' then QP op k a b else none:=by
 cases op <;> rfl
theorem vk{cst:Bool}{op:BinOp}{x y:U}{K:U->Option ρ}{r:ρ}(h:yl cst op x y K=some r):∃u,RT op x.fg y.fg=some (U.fg u)/\K u=some r:=by
 unfold yl at h;split at h
 .rename_i k a k' b;split at h
  .rename_i hs;obtain⟨u,h1,h2⟩:=uh h;exact⟨u,by show RT op (.int k a) (.int k' b)=_;rw [Xf,if_pos hs];exact h1,h2⟩
  .rename_i hs;split at h
   .rename_i hk;split at h
    .cases h
    .obtain⟨u,h1,h2⟩:=xF h;exact⟨u,by show RT op (.int k a) (.int k' b)=_;rw [Xf,if_neg hs,if_pos hk];exact h1,h2⟩
   .cases h
 .rename_i k a b;split at h
  .rename_i hs;obtain⟨u,h1,h2⟩:=uh h;exact⟨u,by show RT op (.int k a) (.int .u8 b.toNat)=_;rw [Xf,if_pos hs];exact h1,h2⟩
  .cases h
 .rename_i a b;obtain⟨u,h1,h2,h3⟩:=yp h;exact⟨u,by show RT op (.int .u8 a.toNat) (.int .u8 b.toNat)=_;rw [Xf,if_neg (by simp [h3]),if_pos rfl];exact h1,h2⟩
 .rename_i a b;split at h
  .obtain⟨h1,h⟩:=G0 h;exact⟨_,by show (if a.length+b.length<=xn then some (T.str (a++b)) else none)=some (U.fg (.str (a++b)));rw [if_pos h1];rfl,h⟩
  .exact⟨_,rfl,h⟩
  .exact⟨_,rfl,h⟩
  .cases h
 .cases h
theorem fh{op:BinOp}{b:Bool}{K:U->Option ρ}{r:ρ}(h:eqK op b K=some r):∃u,VY op b=some (U.fg u)/\K u=some r:=by
 cases op <;> simp only [eqK] at h <;> first
  |cases h;done
  |exact⟨_,rfl,h⟩
theorem QS{α β:Type}{f:α->β}{xs:List α}(h:xs.isEmpty=false):∃y ys,xs.map f=y::ys:=by
 cases xs with
 |nil=>simp at h
 |cons x xs=>exact⟨_,_,rfl⟩
theorem xQ{S:St}{l:AF}{K:Bool->Option ρ}{r:ρ}(h:S.M1 l K=some r):∃b,(S.fg R).M1 (AF.fg R l)=some b/\K b=some r:=by
 unfold St.M1 at h;split at h
 .exact⟨true,rfl,h⟩
 .rename_i s c xs;obtain⟨h1,h⟩:=G0 h;obtain⟨y,ys,hy⟩:=QS (f:=enc c) h1;exact⟨false,by simp only [AF.fg,hy,Lv.St.M1],h⟩
 .rename_i q;simp only [AF.fg,Lv.St.M1,Ey];split at h
  .rename_i hq;rw [hq];exact⟨true,rfl,h⟩
  .rename_i c xs hq;rw [hq];obtain⟨h1,h⟩:=G0 h;obtain⟨y,ys,hy⟩:=QS (f:=enc c) h1;exact⟨false,by simp only [Option.map_some,AF.fg,U.fg,hy],h⟩
  .cases h
 .cases h
theorem ym{S:St}{cst:Bool}{c:Cls}{op:BinOp}{x y:En}{K:U->Option ρ}{r:ρ}(h:S.bin cst c op x y K=some r):∃u,(S.fg R).bin c op (x.fg R) (y.fg R)=some (U.fg u)/\K u=some r:=by
 unfold St.bin at h;split at h
 .split at h
  .exact vk h
  .cases h
 .split at h
  .exact fh h
  .cases h
 .split at h
  .obtain⟨b,h1,h2⟩:=xQ (R:=R) h;obtain⟨u,h3,h4⟩:=fh h2;rename_i l;exact⟨u,by show (match (S.fg R).M1 (AF.fg R l) with|some b=>VY op b|none=>none)=_;rw [h1];exact h3,h4⟩
  .cases h
 .split at h
  .split at h
   .rename_i as' bs' h1 h2;split at h
    .rename_i b hb;obtain⟨u,h3,h4⟩:=fh h;refine⟨u,?_,h4⟩;simp only [En.fg,Lv.St.bin,Zi h1,Zi h2,lQ hb,h3]
    .cases h
   .cases h
  .cases h
theorem zi{op:UnOp}{x:U}{K:U->Option ρ}{r:ρ}(h:unU op x K=some r):∃u,unT op x.fg=some (U.fg u)/\K u=some r:=by
 unfold unU at h;split at h
 .cases op <;> simp only at h <;> first|cases h;done|exact⟨_,rfl,h⟩
 .cases op <;> simp only at h <;> first|cases h;done|(split at h;cases h;exact⟨_,rfl,h⟩)
 .cases h
theorem sB(k:IntKind)(n:Int):(mkInt k n).fg=.int k (k.wrap n):=by cases k <;> simp only [mkInt,vJ] <;> rfl
theorem nE:∀(n:Nat) (x:tD n),WZ (.st n)=true->(zx n x).all flat=true
 |0,x,_=>rfl
 |1,x,h=>absurd h (by decide)
 |2,x,_=>rfl
 |3,x,_=>rfl
 |4,x,_=>rfl
 |5,x,_=>rfl
 |6,x,h=>absurd h (by decide)
 |7,x,h=>absurd h (by decide)
 |8,x,h=>absurd h (by decide)
 |9,x,_=>rfl
 |10,x,_=>rfl
 |11,x,h=>absurd h (by decide)
 |12,x,h=>absurd h (by decide)
 |13,x,h=>absurd h (by decide)
 |14,x,h=>absurd h (by decide)
 |15,x,_=>rfl
 |16,x,h=>absurd h (by decide)
 |17,x,h=>absurd h (by decide)
 |_+18,x,_=>rfl
theorem nD{c:C}(h:WZ c=true)(x:c.D):(enc c x).all flat=true:=by
 cases c with
 |l c=>cases h
 |m=>cases h
 |st n=>exact nE n x h
 |un n=>cases h
 |_=>rfl
theorem Ha{c:C}(h:WZ c=true)(xs:List c.D):DN (xs.map (enc c))=true:=by
 simp only [DN,List.all_map,List.all_eq_true];intro x _;exact nD h x
theorem xt{c:C}{fl:Bool}{S S':St}{l:AF}{ys:List c.D}(h:H0 c fl S l=some (S',ys)):Lv.H0 c.size fl (S.fg R) (AF.fg R l)=some (S'.fg R,ys.map (enc c))/\AV S S':=by
 unfold H0 at h;split at h
 .rename_i s;split at h
  .rename_i xs hx;cases h;have hc:C.u=c:=by
    simp only [Rw.as] at hx;split at hx
    .rename_i hc;exact hc
    .cases hx
   subst hc;have:=RN hx;simp only [AF.fg,U.fg,Lv.H0,C.size,if_true,<-this,Rw.fg];exact⟨rfl,AV.refl _⟩
  .cases h
 .cases h;exact⟨rfl,AV.refl _⟩
 .rename_i s c' xs;split at h
  .rename_i hf;split at h
   .rename_i ys' hx;cases h;have hc:c'=c:=by
     simp only [Rw.as] at hx;split at hx
     .rename_i hc;exact hc
     .cases hx
    subst hc;have:=RN hx;simp only [AF.fg,Lv.H0,Ha hf,and_self,if_true,<-this,Rw.fg];exact⟨trivial,AV.refl _⟩
   .cases h
  .cases h
 .rename_i q sub;simp only [AF.fg,Lv.H0,Ey];split at h
  .rename_i x hx;rw [hx];split at h
   .rename_i w hw;split at h
    .rename_i ys' hy;have he:eOf c.size x.fg=true:=by
      cases x <;> simp [content] at hw <;> subst hw <;> simp only [U.fg,eOf];simp only [Rw.sub,Rw.as] at hy;split at hy
      .rename_i hc;subst hc;simp
      .cases hy
     have hyy:=RN hy;rw [uo] at hyy;simp only [Option.map_some,AF.fg,Ml hw,he,if_true,hyy];cases fl with
     |true=>
      simp only [if_true] at h ⊢;split at h
      .rename_i hf;cases h;rw [if_pos (Ha hf _)];exact⟨rfl,AV.refl _⟩
      .cases h
     |false=>
      simp only [Bool.false_eq_true,if_false] at h ⊢;cases h;rw [Po];exact⟨rfl,AV.out _ _⟩
    .cases h
   .cases h
  .cases h
 .cases h
theorem rY{e:Option (Nat×Nat)}{x:Option ρ}{r:ρ}(h:gdo e x=some r):(∀a b,e=some (a,b)->a=b)/\x=some r:=by
 cases e with
 |none=>exact⟨by intros;contradiction,h⟩
 |some p=>
  obtain⟨a,b⟩:=p;obtain⟨h1,h2⟩:=G0 h;exact⟨fun a' b' hh=>by cases hh;exact h1,h2⟩
theorem Z9{c:C}{S S':St}{l:AF}{b:U}{n:Nat}{e:Option (Nat×Nat)}(h:Jo c S l=some (S',b,n,e))(he:∀a b,e=some (a,b)->a=b):Lv.Jo c.size (S.fg R) (AF.fg R l)=some (S'.fg R,b.fg,n)/\AV S S':=by
 unfold Jo at h;split at h
 .cases h;exact⟨rfl,AV.refl _⟩
 .rename_i q sub;simp only [AF.fg,Lv.Jo,Ey];split at h
  .rename_i x hx;rw [hx];split at h
   .rename_i w hw;split at h
    .rename_i ys hy;cases h;have heo:eOf c.size x.fg=true:=by
      cases x <;> simp [content] at hw <;> subst hw <;> simp only [U.fg,eOf];simp only [Rw.as] at hy;split at hy
      .rename_i hc;subst hc;simp
      .cases hy
     have hyy:=RN hy;have hte:toEnd sub (ys.map (enc c)).length=true:=by
      cases sub with
      |none=>rfl
      |some p=>
       obtain⟨lo,m⟩:=p;have:=he _ _ rfl;simp [toEnd,this]
     simp only [Option.map_some,AF.fg,Ml hw,hyy];rw [if_pos ⟨heo,hte⟩,Po,Oe];refine⟨?_,AV.out _ _⟩;rw [Zh,<-Pz,List.length_map]
    .cases h
   .cases h
  .cases h
 .rename_i q i j c' xs;split at h
  .rename_i hc;subst hc;split at h
   .rename_i S1 h1;cases h;obtain⟨h2,h3⟩:=l9 (R:=R) h1;simp only [AF.fg,Lv.Jo,if_true,h2,U.fg,List.length_map];exact⟨trivial,h3⟩
   .cases h
  .cases h
 .cases h
theorem jR{c:C}{b u:U}{ys:List c.D}(h:vZ c b ys=some u):u.fg=mh c.size b.fg (ys.map (enc c)):=by
 unfold vZ at h;split at h
 .rename_i c' xs;split at h
  .rename_i hc;subst hc;cases h;simp only [U.fg,mh,List.map_append]
  .cases h
 .rename_i hn;cases h;cases b <;> simp only [U.fg,mh];exact(hn _ _ rfl).elim
end
end Y
end Lv
namespace Lv
open Go (IntKind BinOp UnOp)
theorem HK{α β:Type}(f:α->β):∀(cs ls:List α) (o:Nat),Bd (ls.map f) o (cs.map f)=(Bd ls o cs).map f
 | [],ls,o=>by cases ls <;> rfl
 |c::cs,ls,o=>by
  simp only [List.map_cons,Bd];rw [<-List.map_set,HK f cs]
theorem U3{α:Type}(t:α):∀(cs ls:List α) (o b:Nat),o<=b->b<o+cs.length->Bd (ls.set b t) o cs=Bd ls o cs
 | [],ls,o,b,h1,h2=>by simp at h2;omega
 |c::cs,ls,o,b,h1,h2=>by
  simp only [Bd];by_cases h:b=o
  .subst h;rw [List.set_set]
  .rw [List.set_comm _ _ h];exact U3 t cs _ _ _ (by omega) (by simp at h2;omega)
namespace Y
section
variable{R:List GF}{ρ:Type}
theorem Wl(r:Ak)(i:Nat):∀(j:Nat) (us:List U),(EH r i j us).map (AF.fg R)=Lv.EH r i j (us.map U.fg)
 |_,[]=>rfl
 |j,u::us=>by simp only [EH,List.map_cons,Lv.EH,Wm,Wl r i (j+1) us]
theorem Xe{c:C}{xs:List c.D}{i:Int}{x:c.D}(h:at? xs i=some x):(xs.map (enc c))[i.toNat]?=some (enc c x):=yj (enc c) h
theorem JL{S:St}{n:Nat}{l:AF}{K:List AF->Option ρ}{r:ρ}(h:S.load n l K=some r):∃ls,(S.fg R).load n (AF.fg R l)=some (ls.map (AF.fg R))/\K ls=some r:=by
 unfold St.load at h;split at h
 .rename_i id o;simp only [AF.fg,Lv.St.load,IP];split at h
  .rename_i ls hl;rw [hl];split at h
   .rename_i hc;refine⟨_,?_,h⟩;simp only [Option.map_some,List.length_map,hc,if_true,jP,List.map_take,List.map_drop]
   .cases h
  .cases h
 .rename_i q i j;simp only [AF.fg,Lv.St.load,Ey];split at h
  .rename_i c xs hx;rw [hx];obtain⟨x,h1,h⟩:=NR h;split at h
   .rename_i hc;refine⟨_,?_,h⟩;have h2:=Xe h1;simp only [Option.map_some,AF.fg,U.fg,h2,CL,List.length_map,hc,if_true,Wl,List.map_take,List.map_drop]
   .cases h
  .cases h
 .rename_i s cs;split at h
  .rename_i hc;refine⟨_,?_,h⟩;simp only [AF.fg,Lv.St.load,List.length_map,hc,if_true,Option.some.injEq];rw [<-List.map_take,List.map_map,List.map_map];congr 1;funext u;exact(Wm _ _).symm
  .cases h
 .cases h
theorem LU:∀ls:List AF,Lv.Dd (ls.map (AF.fg R))=Dd ls
 | []=>rfl
 |l::ls=>by
  have ih:=LU ls;cases l with
  |t x=>cases x <;> first|rfl|exact ih
  |und=>rfl
  |_=>exact ih
theorem Ua(b o n:Nat)(l:AF):Lv.Dl b o n (AF.fg R l)=Dl b o n l:=by
 simp only [Lv.Dl,Dl,FD];cases l.Ac with
 |none=>rfl
 |some q=>
  cases q with
  |tmp s c=>rfl
  |cell b' c=>
   simp only [Iz];have h1:Nat.ble o c=decide (o<=c):=by
    cases h:Nat.ble o c with
    |true=>simp [Nat.le_of_ble_eq_true h]
    |false=>
     symm;rw [decide_eq_false_iff_not];intro hh;rw [Nat.ble_eq_true_of_le hh] at h;cases h
   have h2:Nat.blt c (o+n)=decide (c<o+n):=by
    unfold Nat.blt;cases h:Nat.ble c.succ (o+n) with
    |true=>have:=Nat.le_of_ble_eq_true h;symm;rw [decide_eq_true_eq];omega
    |false=>
     symm;rw [decide_eq_false_iff_not];intro hh;rw [Nat.ble_eq_true_of_le hh] at h;cases h
   rw [h1,h2]
def eZ:List T->List (Nat×Nat)->List T
 |row,[]=>row
 |row,(_,b)::hs=>eZ (row.set b .top) hs
theorem ef:∀(hs:List (Nat×Nat)) (row:List T),(eZ row hs).length=row.length
 | [],row=>rfl
 |(a,b)::hs,row=>by simp only [eZ,ef hs,List.length_set]
theorem PV(i:Nat):∀(hs:List (Nat×Nat)) (X:List (List T)) (k:Nat),(∀p∈hs,p.1=i)->(GL X hs)[k]?=if k=i then (X[i]?).map (fun row=>eZ row hs) else X[k]?
 | [],X,k,h=>by
  simp only [GL,eZ];split
  .rename_i hk;subst hk;cases X[k]? <;> rfl
  .rfl
 |(a,b)::hs,X,k,h=>by
  have ha:a=i:=h (a,b) (by simp);subst ha;simp only [GL];rw [PV a hs _ k (fun p hp=>h p (by simp [hp]))];simp only [OY,if_true];split
  .cases X[a]? <;> rfl
  .rfl
theorem QX(j:Nat)(ts:List T):∀(hs:List (Nat×Nat)) (row:List T),(∀p∈hs,j<=p.2/\p.2<j+ts.length)->Bd (eZ row hs) j ts=Bd row j ts
 | [],row,h=>rfl
 |(a,b)::hs,row,h=>by
  simp only [eZ];rw [QX j ts hs _ (fun p hp=>h p (by simp [hp]))];have:=h (a,b) (by simp);exact U3 _ _ _ _ _ this.1 this.2
theorem Te{i j n:Nat}:∀{hs:List (Nat×Nat)},JF i j n hs->(∀p∈hs,p.1=i)/\(∀p∈hs,j<=p.2/\p.2<j+n)
 | [],_=>⟨by simp,by simp⟩
 |(a,b)::hs,h=>by
  obtain⟨h1,h2,h3⟩:=h;obtain⟨h4,h5⟩:=Te h3;constructor
  .intro p hp;rcases List.mem_cons.1 hp with rfl|hp
   .exact h1
   .exact h4 p hp
  .intro p hp;rcases List.mem_cons.1 hp with rfl|hp
   .exact h2
   .exact h5 p hp
theorem uw{n:Nat}{ls:List AF}{S S':St}{ls':List AF}(h:Oh n S ls=some (S',ls')):Lv.Oh n (S.fg R) (ls.map (AF.fg R))=some (S'.fg R,ls'.map (AF.fg R))/\AV S S':=by
 unfold Oh at h;unfold Lv.Oh;split at h
 .rename_i hn;rw [Nat.blt_eq] at hn;rw [if_pos hn];exact Is h
 .rename_i hn;rw [if_neg fun h2=>by rw [<-Nat.blt_eq,hn] at h2;cases h2];cases h;exact⟨rfl,AV.refl _⟩
theorem pe{S:St}{n:Nat}{p:AF}{cs:List AF}{K:St->Option ρ}{r:ρ}(h:S.Jh n p cs K=some r) :
 ∃S',(S.fg R).Jh n (AF.fg R p) (cs.map (AF.fg R))=some (S'.fg R)/\AV S S'/\K S'=some r:=by
 unfold St.Jh at h;split at h
 .rename_i id o;split at h
  .rename_i S1 cs' h1;obtain⟨h2,h3⟩:=uw (R:=R) h1;split at h
   .cases h
   .rename_i ht;dsimp only at h;split at h
    .rename_i ls hl;split at h
     .rename_i hlen;refine⟨_,?_,(h3.trans (AV.kill _ _)).trans (AV.HP _ _ _),h⟩;simp only [AF.fg,Lv.St.Jh,h2,LU,ht,Bool.false_eq_true,if_false,List.length_map];rw [E6 (Ua id o cs'.length),IP,hl];simp only [Option.map_some,List.length_map,hlen,if_true];rw [Lu,F4 (Ua id o cs'.length),HK]
     .cases h
    .cases h
  .cases h
 .rename_i q i j;split at h
  .rename_i S1 us h1;obtain⟨h2,h3⟩:=Fp (R:=R) h1;simp only [AF.fg,Lv.St.Jh,h2,Ey];split at h
   .rename_i c xs hx;rw [hx];obtain⟨x,h4,h⟩:=NR h;split at h
    .rename_i hlen;split at h
     .rename_i x' hx';refine⟨_,?_,(h3.trans (AV.Aa _ _ _)).trans (AV.kill _ _),h⟩;have h5:=Xe h4;simp only [Option.map_some,AF.fg,U.fg,h5,CL,List.length_map,hlen,if_true,Option.some.injEq];rw [<-E6 (JV q),DB];congr 2;simp only [AF.fg,U.fg];rw [List.map_set,D6 hx',HK]
     .cases h
    .cases h
   .rename_i c xs hs hx;rw [hx];obtain⟨x,h4,h⟩:=NR h;split at h
    .rename_i hlen;split at h
     .rename_i x' hx';obtain⟨hh,h⟩:=@G0 _ _ (Q7 i.toNat j us.length hs) _ _ h;obtain⟨hr,hcol⟩:=Te hh;refine⟨_,?_,(h3.trans (AV.Aa _ _ _)).trans (AV.kill _ _),h⟩;have h5:=Xe h4;have h6:=PV i.toNat hs (xs.map (enc c)) i.toNat hr;rw [if_pos rfl,h5] at h6;simp only [Option.map_some] at h6;simp only [Option.map_some,AF.fg,h6,ef,HX];have hl2:j+(us.map U.fg).length<=c.size:=by rw [List.length_map,<-O0 c x];exact hlen
      rw [if_pos hl2,<-E6 (JV q),DB];congr 3;simp only [AF.fg,U.fg];have h7:Bd (eZ (enc c x) hs) j (us.map U.fg)=enc c x':=by
       rw [QX _ _ _ _ (by rw [List.length_map];exact hcol),D6 hx',CL,HK]
      rw [h7];congr 1;congr 1;apply List.ext_getElem?;intro k;have hlt:i.toNat<xs.length:=(H6 h4).2.2.1;have hlt2:i.toNat<(GL (xs.map (enc c)) hs).length:=(List.getElem?_eq_some_iff.1 h6).1;rw [List.getElem?_set,List.getElem?_map,List.getElem?_set];by_cases hk:i.toNat=k
      .subst hk;simp only [if_true,hlt,hlt2,Option.map_some]
      .rw [if_neg hk,if_neg hk,PV i.toNat hs _ k hr,if_neg (fun h=>hk h.symm),List.getElem?_map]
     .cases h
    .cases h
   .cases h
  .cases h
 .cases h
def erP(R:List GF)(p:Nat×Nat×YO):Nat×Nat×Opd:=(p.1,p.2.1,p.2.2.er R)
theorem Vt{S:St}:∀{ps:List (Nat×Nat×YO)} {ls ls':List AF},GB S ls ps=some ls'->Lv.GB (S.fg R) (ls.map (AF.fg R)) (ps.map (erP R))=some (ls'.map (AF.fg R))
 | [],ls,ls',h=>by cases h;rfl
 |(o,n,x)::ps,ls,ls',h=>by
  simp only [GB] at h;split at h
  .rename_i e he;split at h
   .rename_i hc;have:=Vt (ps:=ps) h;simp only [List.map_cons,erP,Lv.GB,FP he,En.fg,List.length_map,LU];rw [if_pos hc,HK];exact this
   .cases h
  .cases h
def erQ(R:List GF)(p:Nat×YO):Nat×Opd:=(p.1,p.2.er R)
theorem qY{c:C}{n:Nat}:∀{ps:List (Nat×YO)} {S S':St} {xs xs':List c.D},bsK c n S xs ps=some (S',xs') ->
 Lv.bsK c.size n (S.fg R) (xs.map (enc c)) (ps.map (erQ R))=some (S'.fg R,xs'.map (enc c))/\AV S S'
 | [],S,S',xs,xs',h=>by cases h;exact⟨rfl,AV.refl _⟩
 |(i,x)::ps,S,S',xs,xs',h=>by
  simp only [bsK] at h;split at h
  .rename_i e he;split at h
   .rename_i hc;split at h
    .rename_i S1 us h1;obtain⟨h2,h3⟩:=Fp (R:=R) h1;split at h
     .rename_i y hy;obtain⟨h4,h5⟩:=qY (ps:=ps) h;simp only [List.map_cons,erQ,Lv.bsK,FP he,En.fg,List.length_map];rw [if_pos hc,h2];dsimp only;rw [<-D6 hy,<-List.map_set];exact⟨h4,h3.trans h5⟩
     .cases h
    .cases h
   .cases h
  .cases h
theorem qZ{c:C}{n:Nat}{z:List T}:∀{ps:List (Nat×YO)} {S S':St} {ys:List c.D} (pre:List (List T)),bsL c n S ps=some (S',ys)->cU pre.length n ps=true->pre.length<=n ->
 Lv.bsK c.size n (S.fg R) (pre++List.replicate (n-pre.length) z) (ps.map (erQ R))=some (S'.fg R,pre++ys.map (enc c))/\AV S S'
 | [],S,S',ys,pre,h,ho,hn=>by
  cases h;simp only [cU,beq_iff_eq] at ho;simp only [List.map_nil,Lv.bsK,ho,Nat.sub_self,List.replicate_zero];exact⟨trivial,AV.refl _⟩
 |(i,x)::ps,S,S',ys,pre,h,ho,hn=>by
  simp only [cU,Bool.and_eq_true,beq_iff_eq] at ho;obtain⟨rfl,ho⟩:=ho;simp only [bsL] at h;split at h
  .rename_i e he;split at h
   .rename_i hc;split at h
    .rename_i S1 us h1;obtain⟨h2,h3⟩:=Fp (R:=R) h1;split at h
     .rename_i y S2 ys' hy h6;cases h;have hl:(pre++[enc c y]).length=pre.length+1:=by simp
      obtain⟨h4,h5⟩:=qZ (z:=z) (ps:=ps) (pre++[enc c y]) h6 (by rw [hl];exact ho) (by rw [hl];omega);simp only [List.map_cons,erQ,Lv.bsK,FP he,En.fg,List.length_map];rw [if_pos hc,h2];dsimp only;rw [<-D6 hy];have hs:(pre++List.replicate (n-pre.length) z).set pre.length (enc c y)=(pre++[enc c y])++List.replicate (n-(pre++[enc c y]).length) z:=by
       rw [List.set_append_right _ _ (Nat.le_refl _),Nat.sub_self,hl];have:n-pre.length=(n-(pre.length+1))+1:=by omega
       rw [this,List.replicate_succ];simp
      rw [hs];refine⟨?_,h3.trans h5⟩;simpa [erQ] using h4
     .cases h
    .cases h
   .cases h
  .cases h
theorem HD{S:St}{len:Nat}{lo hi:Option YO}{K:Nat->Nat->Option ρ}{r:ρ}(h:range S len lo hi K=some r) :
 ∃a b,(S.fg R).range len (lo.map (YO.er R)) (hi.map (YO.er R))=some (a,b)/\K a b=some r/\∀{α:Type} (xs:List α),xs.length=len->part lo hi xs a b=(xs.drop a).take (b-a):=by
 unfold range at h;split at h
 .refine⟨0,len,?_,h,fun xs hx=>by subst hx;simp [part]⟩;simp [Lv.St.range,Lv.St.dH]
 .rename_i x;split at h
  .rename_i a ha;obtain⟨h1,h⟩:=G0 h;refine⟨_,_,?_,h,fun xs hx=>?_⟩
   .simp only [Option.map_some,Option.map_none,Lv.St.range,Lv.St.dH,G8 ha];rw [if_pos ⟨h1.1,h1.2,Int.le_refl _⟩];simp
   .simp only [part];rw [List.take_of_length_le (by simp [hx])]
  .cases h
 .rename_i y;split at h
  .rename_i b hb;obtain⟨h1,h⟩:=G0 h;refine⟨_,_,?_,h,fun xs hx=>by simp [part]⟩;simp only [Option.map_some,Option.map_none,Lv.St.range,Lv.St.dH,G8 hb];rw [if_pos ⟨Int.le_refl _,h1.1,h1.2⟩];rfl
  .cases h
 .rename_i x y;split at h
  .rename_i a b ha hb;obtain⟨h1,h⟩:=G0 h;refine⟨_,_,?_,h,fun xs hx=>rfl⟩;simp only [Option.map_some,Lv.St.range,Lv.St.dH,G8 ha,G8 hb];rw [if_pos h1]
  .cases h
theorem OB:∀(hs:List (Nat×Nat)) (X:List (List T)),(GL X hs).length=X.length
 | [],_=>rfl
 |(i,j)::hs,X=>by rw [GL,OB hs];simp [EM]
theorem MD{S:St}{c:C}{l:AF}(h:S.wide c l=true)(hl:(∃s c' xs,l=.vw s c' xs)\/(∃q sub,l=.al q sub)\/l=.t .nil):(S.fg R).wide c.size (AF.fg R l)=true:=by
 rcases hl with ⟨s,c',xs,rfl⟩|⟨q,sub,rfl⟩|rfl
 .simp only [St.wide,decide_eq_true_eq] at h;subst h;simp [AF.fg,Lv.St.wide]
 .simp only [St.wide] at h;simp only [AF.fg,Lv.St.wide,Ey];split at h
  .rename_i x hx;rw [hx];simp only [Option.map_some,AF.fg];cases x <;> simp only [U.fg,eOf];simp only [decide_eq_true_eq] at h;subst h;simp
  .rename_i c' xs hs hx;rw [hx];simp only [decide_eq_true_eq] at h;subst h;simp [AF.fg,eOf]
  .cases h
 .rfl
theorem nT{off:Nat}{p q:AF}(h:GI off p=some q):Lv.GI off (AF.fg R p)=some (AF.fg R q):=by
 cases p <;> simp only [GI] at h <;> first
  |cases h;done
  |(cases h;simp only [AF.fg,Lv.GI,List.map_drop])
theorem rb(p:AF):Lv.St.Jr (AF.fg R p)=Jr p:=by cases p <;> rfl
theorem yt{l:AF}{c:Cap}(h:l.yq=some c):c.fg=AF.fg R l/\(AF.fg R l).plain=true:=by
 unfold AF.yq at h;split at h <;> first|cases h;done|(cases h;exact⟨rfl,rfl⟩)
theorem Vp:∀{es:List En} {cs:List Cap},Xb es=some cs->((es.map (En.fg R)).all fun e=>Lv.cV e.sh&&e.cs.length==1&&e.cs.all Lv.AF.plain)=true/\(es.map (En.fg R)).flatMap Lv.Ent.cs=cs.map Cap.fg
 | [],cs,h=>by cases h;exact⟨rfl,rfl⟩
 |e::es,cs,h=>by
  unfold Xb at h;split at h
  .rename_i he;cases he
  .rename_i l es' he;cases he;split at h
   .rename_i c cs' h1 h2;cases h;obtain⟨h3,h4⟩:=Vp h2;obtain⟨h5,h6⟩:=yt (R:=R) h1;constructor
    .rw [List.map_cons,List.all_cons,h3];simp [En.fg,Lv.cV,h6]
    .simp only [List.map_cons,List.flatMap_cons,h4,En.fg,List.map_nil,List.singleton_append,h5]
   .cases h
  .cases h
end
end Y
end Lv
namespace Lv
open Go (IntKind BinOp UnOp)
namespace Y
section
variable{R:List GF}{ρ:Type}
def zsC(c:C):List T:=match fJ c with|some z=>enc c z|none=>[]
theorem jM{c:C}{z:c.D}(h:fJ c=some z):zsC c=enc c z:=by unfold zsC;rw [h]
def YOp.er:YOp R->XOp
 |.mv d x=>.mv d (x.er R)
 |.as d x=>.as d (x.er R)
 |.pick d c a b=>.pick d (c.er R) (a.er R) (b.er R)
 |.alloc d zs=>.alloc d (zs.map U.fg)
 |.box d x=>.box d (x.er R)
 |.build d zs ps=>.build d (zs.map U.fg) (ps.map (erP R))
 |.AR d n c ps=>.AR d n (zsC c) (ps.map (erQ R))
 |.ld d n x=>.ld d n (x.er R)
 |.st n x v=>.st n (x.er R) (v.er R)
 |.chk d x=>.chk d (x.er R)
 |.bin d c op x y=>.bin d c op (x.er R) (y.er R)
 |.un d op x=>.un d op (x.er R)
 |.cvI d k x=>.cvI d k (x.er R)
 |.Mm d x=>.Mm d (x.er R)
 |.MH d x=>.MH d (x.er R)
 |.Ph d n caps=>.Ph d (xr R n) (caps.map (YO.er R))
 |.Mw d c n=>.Mw d (zsC c) (n.er R) (n.er R)
 |.sub d c x lo hi=>.sub d c.size (x.er R) (lo.map (YO.er R)) (hi.map (YO.er R))
 |.Of d x lo hi=>.Of d (x.er R) (lo.map (YO.er R)) (hi.map (YO.er R))
 |.fa d off x=>.fa d off (x.er R)
 |.fld d off n x=>.fld d off n (x.er R)
 |.ia d c x i=>.ia d c.size (x.er R) (i.er R)
 |.ix d x i=>.ix d (x.er R) (i.er R)
 |.ext d x i=>.ext d (x.er R) i
 |.call d g _ _ args=>.call d g.x (args.map (YO.er R))
 |.Fu d x ms args=>.Fu d (x.er R) ms (args.map (YO.er R))
 |.len d x=>.len d (x.er R)
 |.lens d x=>.lens d (x.er R)
 |.app d c fl x y=>.app d c.size fl (x.er R) (y.er R)
 |.MG d c x n=>.MG d (zsC c) (x.er R) (n.er R)
 |.cpy d c x y=>.cpy d c.size (x.er R) (y.er R)
 |.mm d m x y=>.mm d m (x.er R) (y.er R)
 |.mmk d=>.mmk d
 |.Mv d x k=>.Mv d (x.er R) (k.er R)
 |.MI x k v=>.MI (x.er R) (k.er R) (v.er R)
 |.Mx d x=>.Mx d (x.er R)
 |.bad d=>.bad d
 |.drop ds=>.drop ds
 |.A6 ns=>.A6 (ns.map fun p=>(p.1,p.2.size))
def Plain(o:YOp R)(S:St)(K:St->Option ρ)(r:ρ):Prop:=∃S',Lv.ev o.er (S.fg R)=some (S'.fg R)/\AV S S'/\K S'=some r
theorem A0{o:YOp R}{S S1:St}{d:Nat}{sh:Sh}{cs:List AF}{K:St->Option ρ}{r:ρ}(h:DK S1 d sh cs K=some r)(hk:AV S S1)(he:Lv.ev o.er (S.fg R)=(S1.fg R).Bi d ⟨sh,cs.map (AF.fg R)⟩):Plain o S K r:=by
 obtain⟨S',h1,h2,h3⟩:=RD (R:=R) h;exact⟨S',he.trans h1,hk.trans h2,h3⟩
variable{S:St}{K:St->Option ρ}{r:ρ}
theorem sb{d:Nat}{x:YO}(h:ev (.mv d x:YOp R) S K=some r):Plain (.mv d x:YOp R) S K r:=by
 simp only [ev] at h;split at h
 .rename_i e he;exact A0 h (AV.refl _) (by simp only [YOp.er,Lv.ev,FP he,En.fg])
 .cases h
theorem sW{d:Nat}{x:YO}(h:ev (.as d x:YOp R) S K=some r):Plain (.as d x:YOp R) S K r:=by
 simp only [ev] at h;split at h
 .rename_i e he;split at h
  .rename_i S1 cs h1;obtain⟨h2,h3⟩:=Is (R:=R) h1;exact A0 h h3 (by simp only [YOp.er,Lv.ev,FP he,En.fg,h2])
  .cases h
 .cases h
theorem Y8{d:Nat}{c a b:YO}(h:ev (.pick d c a b:YOp R) S K=some r):Plain (.pick d c a b:YOp R) S K r:=by
 simp only [ev] at h;split at h
 .rename_i t ea eb h1 h2 h3;rcases jU h with ⟨rfl,h'⟩|⟨rfl,h'⟩
  .exact A0 h' (AV.refl _) (by simp only [YOp.er,Lv.ev,Hk h1,FP h2,FP h3,U.fg,En.fg,if_true])
  .exact A0 h' (AV.refl _) (by simp only [YOp.er,Lv.ev,Hk h1,FP h2,FP h3,U.fg,En.fg,Bool.false_eq_true,if_false])
 .cases h
theorem UY{d:Nat}{zs:List U}(h:ev (.alloc d zs:YOp R) S K=some r):Plain (.alloc d zs:YOp R) S K r:=by
 simp only [ev] at h;obtain⟨S',h1,h2,h3⟩:=UP (R:=R) h;refine⟨S',?_,h2,h3⟩;rw [<-h1];simp only [YOp.er,Lv.ev,Lv.Ib,List.map_map];rfl
theorem ic{d:Nat}{x:YO}(h:ev (.box d x:YOp R) S K=some r):Plain (.box d x:YOp R) S K r:=by
 simp only [ev] at h;split at h
 .rename_i e he;split at h
  .rename_i S1 cs h1;obtain⟨h2,h3⟩:=vr (R:=R) h1;split at h
   .cases h
   .rename_i hc;obtain⟨S',h4,h5,h6⟩:=UP (R:=R) h;refine⟨S',?_,h3.trans h5,h6⟩;simp only [YOp.er,Lv.ev,FP he,En.fg,h2,LU,List.length_map];rw [<-F4 (q':=fun l=>Lv.B5 d l||Lv.CV d l) (fun l=>by rw [OK,OJ])] at h4;unfold Lv.Ib at h4;split at h4
    .cases h4
    .rename_i hp;rw [if_neg (by intro hh;rcases hh with hh|hh;exact hp hh;exact hc hh)];exact h4
  .cases h
 .cases h
theorem UZ{d:Nat}{zs:List U}{ps:List (Nat×Nat×YO)}(h:ev (.build d zs ps:YOp R) S K=some r):Plain (.build d zs ps:YOp R) S K r:=by
 simp only [ev] at h;split at h
 .rename_i ls hl;have:=Vt (R:=R) hl;rw [List.map_map] at this;refine A0 h (AV.refl _) ?_;simp only [YOp.er,Lv.ev,List.map_map];rw [show (Lv.AF.t∘U.fg)=(AF.fg R∘AF.t) from rfl,this]
 .cases h
theorem Pl{d n:Nat}{c:C}{ps:List (Nat×YO)}(h:ev (.AR d n c ps:YOp R) S K=some r):Plain (.AR d n c ps:YOp R) S K r:=by
 simp only [ev] at h;split at h
 .rename_i z hz;split at h
  .rename_i hn;split at h
   .rename_i S1 xs hx;have hb:Lv.bsK c.size n (S.fg R) (rowsOf n (enc c z)) (ps.map (erQ R))=some (S1.fg R,xs.map (enc c))/\AV S S1:=by
     split at hx
     .rename_i ho;have:=qZ (R:=R) (z:=enc c z) [] hx ho (Nat.zero_le _);simpa [rowsOf] using this
     .have:=qY (R:=R) hx;rw [List.map_replicate] at this;exact this
    refine A0 h hb.2 ?_;simp only [YOp.er,Lv.ev,jM hz,HX];rw [if_pos hn,hb.1];rfl
   .cases h
  .cases h
 .cases h
theorem sa{d:Nat}{n:Option Nat}{x:YO}(h:ev (.ld d n x:YOp R) S K=some r):Plain (.ld d n x:YOp R) S K r:=by
 simp only [ev] at h;split at h
 .rename_i p hp;obtain⟨ls,h1,h⟩:=JL (R:=R) h;exact A0 h (AV.refl _) (by simp only [YOp.er,Lv.ev,CC hp,h1])
 .cases h
theorem sd{n:Nat}{x v:YO}(h:ev (.st n x v:YOp R) S K=some r):Plain (.st n x v:YOp R) S K r:=by
 simp only [ev] at h;split at h
 .rename_i p e hp he;split at h
  .rename_i hc;obtain⟨S',h1,h2,h3⟩:=pe (R:=R) h;refine⟨S',?_,h2,h3⟩;simp only [YOp.er,Lv.ev,CC hp,FP he,En.fg,List.length_map];rw [if_pos hc,h1]
  .cases h
 .cases h
theorem ie{d:Nat}{x:YO}(h:ev (.chk d x:YOp R) S K=some r):Plain (.chk d x:YOp R) S K r:=by
 simp only [ev] at h;split at h
 .rename_i p hp;split at h
  .rename_i hc;exact A0 h (AV.refl _) (by simp only [YOp.er,Lv.ev,CC hp,rb,hc,if_true];rfl)
  .cases h
 .cases h
theorem ib{d:Nat}{c:Cls}{op:BinOp}{x y:YO}(h:ev (.bin d c op x y:YOp R) S K=some r):Plain (.bin d c op x y:YOp R) S K r:=by
 simp only [ev] at h;split at h
 .rename_i ex ey h1 h2;obtain⟨u,h3,h⟩:=ym (R:=R) h;exact A0 h (AV.refl _) (by simp only [YOp.er,Lv.ev,FP h1,FP h2,h3];rfl)
 .cases h
theorem se{d:Nat}{op:UnOp}{x:YO}(h:ev (.un d op x:YOp R) S K=some r):Plain (.un d op x:YOp R) S K r:=by
 simp only [ev] at h;split at h
 .rename_i a h1;obtain⟨u,h3,h⟩:=zi h;exact A0 h (AV.refl _) (by simp only [YOp.er,Lv.ev,Hk h1,h3];rfl)
 .cases h
theorem ij{d:Nat}{k:IntKind}{x:YO}(h:ev (.cvI d k x:YOp R) S K=some r):Plain (.cvI d k x:YOp R) S K r:=by
 simp only [ev] at h;split at h
 .rename_i n h1;exact A0 h (AV.refl _) (by simp only [YOp.er,Lv.ev,G8 h1,List.map_cons,List.map_nil,AF.fg,sB])
 .cases h
theorem Y1{d:Nat}{x:YO}(h:ev (.Mm d x:YOp R) S K=some r):Plain (.Mm d x:YOp R) S K r:=by
 simp only [ev] at h;split at h
 .rename_i s h1;exact A0 h (AV.refl _) (by simp only [YOp.er,Lv.ev,Hk h1,U.fg];rfl)
 .cases h
theorem Y0{d:Nat}{x:YO}(h:ev (.MH d x:YOp R) S K=some r):Plain (.MH d x:YOp R) S K r:=by
 simp only [ev] at h;split at h
 .rename_i l h1;split at h
  .rename_i w hw;split at h
   .rename_i bs hb;have h2:=IM (R:=R) hw;rw [RN hb] at h2;refine A0 h (AV.refl _) ?_;have h3:bytesOf (bs.map (enc .u))=some bs:=aC bs;simp only [YOp.er,Lv.ev,CC h1,h2,h3];rfl
   .cases h
  .cases h
 .cases h
theorem Y4{d n:Nat}{caps:List YO}(h:ev (.Ph d n caps:YOp R) S K=some r):Plain (.Ph d n caps:YOp R) S K r:=by
 simp only [ev] at h;split at h
 .rename_i es he;split at h
  .rename_i cs hc;obtain⟨h1,h2⟩:=Vp (R:=R) hc;refine A0 h (AV.refl _) ?_;simp only [YOp.er,Lv.ev,Pu he];rw [if_pos h1,h2];rfl
  .cases h
 .cases h
theorem Y5{d:Nat}{c:C}{n:YO}(h:ev (.Mw d c n:YOp R) S K=some r):Plain (.Mw d c n:YOp R) S K r:=by
 simp only [ev] at h;split at h
 .rename_i k hk;split at h
  .rename_i z hz;obtain⟨h1,h⟩:=G0 h;refine A0 h (AV.refl _) ?_;simp only [YOp.er,Lv.ev,G8 hk,jM hz,HX];rw [if_pos ⟨trivial,h1⟩];simp only [rowsOf,List.map_cons,List.map_nil,AF.fg,U.fg,List.map_replicate]
  .cases h
 .cases h
theorem Y9{d:Nat}{x:YO}{lo hi:Option YO}(h:ev (.Of d x lo hi:YOp R) S K=some r):Plain (.Of d x lo hi:YOp R) S K r:=by
 simp only [ev] at h;split at h
 .rename_i s hs;obtain⟨a,b,h1,h,h2⟩:=HD (R:=R) h;rw [h2 s rfl] at h;exact A0 h (AV.refl _) (by simp only [YOp.er,Lv.ev,Hk hs,U.fg,h1];rfl)
 .cases h
theorem rO{q:Ak}{sub:Option (Nat×Nat)}{w:Rw}{c:C}{xs:List c.D}(h:S.elems (.al q sub)=some w)(ha:w.as c=some xs):(S.fg R).elems (.al q sub)=some (xs.map (enc c)):=by
 have:=IM (R:=R) h;rw [RN ha] at this;exact this
theorem ir{d:Nat}{c:C}{x:YO}{lo hi:Option YO}(h:ev (.sub d c x lo hi:YOp R) S K=some r):Plain (.sub d c x lo hi:YOp R) S K r:=by
 simp only [ev] at h;split at h
 .rename_i l hl;split at h
  .rename_i hw;split at h
   .rename_i q sub;have hw':=MD (R:=R) hw (.inr (.inl ⟨_,_,rfl⟩));split at h
    .rename_i w he;split at h
     .rename_i xs hx;obtain⟨a,b,h1,h,_⟩:=HD (R:=R) h;have h2:=rO (R:=R) he hx;have h3:=CC (R:=R) hl;simp only [AF.fg] at hw' h3;refine A0 h (AV.refl _) ?_;simp only [YOp.er,Lv.ev,h3,hw',if_true,h2,List.length_map,h1];cases sub with
      |none=>rfl
      |some p=>rfl
     .cases h
    .cases h
   .rename_i s c' xs;have hw':=MD (R:=R) hw (.inl ⟨_,_,_,rfl⟩);obtain⟨a,b,h1,h,h2⟩:=HD (R:=R) h;rw [h2 xs rfl] at h;have h3:=CC (R:=R) hl;simp only [AF.fg] at hw' h3;refine A0 h (AV.refl _) ?_;simp only [YOp.er,Lv.ev,h3,hw',if_true,Lv.St.elems,List.length_map,h1,List.map_cons,List.map_nil,AF.fg,List.map_take,List.map_drop]
   .obtain⟨a,b,h1,h,_⟩:=HD (R:=R) h;have hw':=MD (R:=R) hw (.inr (.inr rfl));have h3:=CC (R:=R) hl;simp only [AF.fg,U.fg] at hw' h3;refine A0 h (AV.refl _) ?_;simp only [YOp.er,Lv.ev,h3,hw',if_true,Lv.St.elems,List.length_nil,h1,List.map_cons,List.map_nil,AF.fg,U.fg]
   .cases h
  .cases h
 .cases h
theorem sX{d off:Nat}{x:YO}(h:ev (.fa d off x:YOp R) S K=some r):Plain (.fa d off x:YOp R) S K r:=by
 simp only [ev] at h;split at h
 .rename_i p hp;split at h
  .rename_i q hq;exact A0 h (AV.refl _) (by simp only [YOp.er,Lv.ev,CC hp,nT hq];rfl)
  .cases h
 .cases h
theorem il{d off:Nat}{n:Option Nat}{x:YO}(h:ev (.fld d off n x:YOp R) S K=some r):Plain (.fld d off n x:YOp R) S K r:=by
 simp only [ev] at h;split at h
 .rename_i cs hr;split at h
  .rename_i hc;refine A0 h (AV.refl _) ?_;simp only [YOp.er,Lv.ev,FP hr,En.fg,List.length_map,hc,if_true,List.map_take,List.map_drop]
  .cases h
 .cases h
theorem sY{d:Nat}{c:C}{x i:YO}(h:ev (.ia d c x i:YOp R) S K=some r):Plain (.ia d c x i:YOp R) S K r:=by
 simp only [ev] at h;split at h
 .rename_i l n hl hn;split at h
  .rename_i hw;split at h
   .rename_i q sub;have hw':=MD (R:=R) hw (.inr (.inl ⟨_,_,rfl⟩));split at h
    .rename_i c' xs he;obtain⟨y,hy,h⟩:=NR h;have h2:=IM (R:=R) he;have h3:=CC (R:=R) hl;simp only [AF.fg] at hw' h3 h2;have hf:=H6 hy;refine A0 h (AV.refl _) ?_;simp only [YOp.er,Lv.ev,h3,G8 hn,h2,Rw.fg,List.length_map];rw [if_pos ⟨hw',hf.1,hf.2.1⟩];cases sub with
     |none=>rfl
     |some p=>
      obtain⟨lo,m⟩:=p;simp only [List.map_cons,List.map_nil,AF.fg];congr 5;have:=hf.1;omega
    .split at h
     .split at h
      .rename_i c' xs hs hq;obtain⟨y,hy,h⟩:=NR h;have h3:=CC (R:=R) hl;simp only [AF.fg] at hw' h3;have hf:=H6 hy;refine A0 h (AV.refl _) ?_;simp only [YOp.er,Lv.ev,h3,G8 hn,Lv.St.elems,Ey,hq,Option.map_some,AF.fg,Lv.content,Lv.EX,OB,List.length_map];rw [if_pos ⟨hw',hf.1,hf.2.1⟩];rfl
      .cases h
     .cases h
   .rename_i s c' xs;have hw':=MD (R:=R) hw (.inl ⟨_,_,_,rfl⟩);obtain⟨y,hy,h⟩:=NR h;have h3:=CC (R:=R) hl;simp only [AF.fg] at hw' h3;have hf:=H6 hy;refine A0 h (AV.refl _) ?_;simp only [YOp.er,Lv.ev,h3,G8 hn,Lv.St.elems,List.length_map];rw [if_pos ⟨hw',hf.1,hf.2.1⟩];have h4:(xs.map (enc c')).getD n.toNat []=(cells c' y).map U.fg:=by
     rw [List.getD_eq_getElem?_getD,Xe hy,Option.getD_some,CL]
    rw [h4];rfl
   .cases h
  .cases h
 .cases h
theorem sZ{d:Nat}{x i:YO}(h:ev (.ix d x i:YOp R) S K=some r):Plain (.ix d x i:YOp R) S K r:=by
 simp only [ev] at h;split at h
 .rename_i s n hs hn;obtain⟨y,hy,h⟩:=NR h;have hf:=H6 hy;refine A0 h (AV.refl _) ?_;simp only [YOp.er,Lv.ev,Hk hs,U.fg,G8 hn];rw [if_pos ⟨hf.1,hf.2.1⟩];have:s.getD n.toNat 0=y:=by rw [List.getD_eq_getElem?_getD,hf.2.2.2.1,Option.getD_some]
  rw [this];rfl
 .cases h
theorem ik{d:Nat}{x:YO}{i:Nat}(h:ev (.ext d x i:YOp R) S K=some r):Plain (.ext d x i:YOp R) S K r:=by
 simp only [ev] at h;split at h
 .rename_i s;split at h
  .rename_i ns cs v hg;split at h
   .rename_i n hn;split at h
    .rename_i hc;split at h
     .rename_i S1 ls h1;obtain⟨h2,h3⟩:=Is (R:=R) h1;refine A0 h h3 ?_;simp only [YOp.er,YO.er,Lv.ev,N5,hg,Option.map_some,Ent.fg,hn,List.length_map,hc,if_true];rw [List.map_take,List.map_drop,Xa] at h2;rw [h2]
     .cases h
    .cases h
   .cases h
  .cases h
 .cases h
theorem Y2{d:Nat}{x:YO}(h:ev (.lens d x:YOp R) S K=some r):Plain (.lens d x:YOp R) S K r:=by
 simp only [ev] at h;split at h
 .rename_i s hs;exact A0 h (AV.refl _) (by simp only [YOp.er,Lv.ev,Hk hs,U.fg];rfl)
 .cases h
theorem im{d:Nat}{x:YO}(h:ev (.len d x:YOp R) S K=some r):Plain (.len d x:YOp R) S K r:=by
 simp only [ev] at h;split at h
 .rename_i l hl;split at h
  .rename_i c xs he;have h2:=IM (R:=R) he;exact A0 h (AV.refl _) (by simp only [YOp.er,Lv.ev,CC hl,h2,Rw.fg,List.length_map];rfl)
  .rename_i he;have h2:=IM (R:=R) he;exact A0 h (AV.refl _) (by simp only [YOp.er,Lv.ev,CC hl,h2,Rw.fg,List.length_nil];rfl)
  .cases h
 .cases h
theorem iZ{d:Nat}{c:C}{fl:Bool}{x y:YO}(h:ev (.app d c fl x y:YOp R) S K=some r):Plain (.app d c fl x y:YOp R) S K r:=by
 simp only [ev] at h;split at h
 .rename_i lx ly hx hy;split at h
  .rename_i S1 ys h1;obtain⟨h2,h3⟩:=xt (R:=R) h1;split at h
   .rename_i S2 b n e h4;obtain⟨he,h⟩:=rY h;obtain⟨h5,h6⟩:=Z9 (R:=R) h4 he;obtain⟨h7,h⟩:=G0 h;split at h
    .rename_i u hu;refine A0 h (h3.trans h6) ?_;simp only [YOp.er,Lv.ev,CC hx,CC hy,h2,h5,List.length_map];rw [if_pos h7,<-jR hu];rfl
    .cases h
   .cases h
  .cases h
 .cases h
theorem Yz{d:Nat}{c:C}{x n:YO}(h:ev (.MG d c x n:YOp R) S K=some r):Plain (.MG d c x n:YOp R) S K r:=by
 simp only [ev] at h;split at h
 .rename_i lx k z hx hk hz;obtain⟨h1,h⟩:=G0 h;split at h
  .rename_i S2 b m e h4;obtain⟨he,h⟩:=rY h;obtain⟨h5,h6⟩:=Z9 (R:=R) h4 he;obtain⟨h7,h⟩:=G0 h;split at h
   .rename_i u hu;refine A0 h h6 ?_;simp only [YOp.er,Lv.ev,CC hx,G8 hk,jM hz,HX];rw [if_pos h1]
    try dsimp only
    rw [h5]
    try dsimp only
    rw [if_pos h7];have:=jR hu;rw [List.map_replicate] at this;simp only [rowsOf,<-this,List.map_cons,List.map_nil,AF.fg]
   .cases h
  .cases h
 .cases h
theorem ig{d:Nat}{c:C}{x y:YO}(h:ev (.cpy d c x y:YOp R) S K=some r):Plain (.cpy d c x y:YOp R) S K r:=by
 simp only [ev] at h;split at h
 .rename_i q ly hx hy;split at h
  .rename_i c' xs0 w hat hw;split at h
   .rename_i ys xs hys hxs;split at h
    .rename_i hc;obtain⟨hne,h⟩:=G0 h;have hcc:c'=c:=by
      simp only [Rw.as] at hxs;split at hxs
      .rename_i hc;exact hc
      .cases hxs
     subst hcc;have hx0:xs0=xs:=by simp only [Rw.as] at hxs;simpa using hxs
     subst hx0;have h2:=IM (R:=R) hw;rw [RN hys] at h2;have h3:=CC (R:=R) hx;simp only [AF.fg] at h3;have hwd:(S.fg R).wide c'.size (AF.fg R ly)=true:=by
      refine MD hc.1 ?_;unfold St.elems at hw;split at hw
      .exact .inr (.inl ⟨_,_,rfl⟩)
      .exact .inl ⟨_,_,_,rfl⟩
      .exact .inr (.inr rfl)
      .cases hw
     have hemp:(xs0.map (enc c')).isEmpty=false:=by cases xs0 <;> simp_all
     have hy':=CC (R:=R) hy;generalize AF.fg R ly=L at hy' h2 hwd;refine A0 h ((AV.Aa _ _ _).trans (AV.kill _ _)) ?_;simp only [YOp.er,Lv.ev,h3,hy',Ey,hat,Option.map_some,AF.fg,U.fg,h2];rw [if_pos ⟨trivial,hwd,Ha hc.2 _,Ha hc.2 _,hemp⟩,<-E6 (JV q),DB];simp only [AF.fg,U.fg,List.map_append,List.map_take,List.map_drop,List.length_map,List.map_cons,List.map_nil]
    .cases h
   .cases h
  .cases h
 .cases h
theorem lu{d:Nat}{m:Bool}{x y:YO}(h:ev (.mm d m x y:YOp R) S K=some r):Plain (.mm d m x y:YOp R) S K r:=by
 simp only [ev] at h;split at h
 .rename_i k a k' b h1 h2;split at h
  .rename_i hk;exact A0 h (AV.refl _) (by simp only [YOp.er,Lv.ev,Hk h1,Hk h2,U.fg];rw [if_pos hk];rfl)
  .cases h
 .cases h
theorem Tr{x:YO}{q:Ak}{ks:List (Int×Int)}(h:S.IY x=some (q,ks)):(S.fg R).IY (x.er R)=some (q,ks):=by
 unfold St.IY at h;split at h
 .rename_i r0 h1;split at h
  .rename_i ks0 h2;cases h;have:=CC (R:=R) h1;simp only [AF.fg] at this;unfold Lv.St.IY;simp only [this,Ey,h2,Option.map_some,AF.fg,U.fg]
  .cases h
 .cases h
theorem iq{d:Nat}(h:ev (.mmk d:YOp R) S K=some r):Plain (.mmk d:YOp R) S K r:=by
 simp only [ev] at h;exact A0 h (AV.refl _) (by simp only [YOp.er,Lv.ev];rfl)
theorem Y3{d:Nat}{x k:YO}(h:ev (.Mv d x k:YOp R) S K=some r):Plain (.Mv d x k:YOp R) S K r:=by
 simp only [ev] at h;split at h
 .rename_i q ks n h1 h2;exact A0 h (AV.refl _) (by simp only [YOp.er,Lv.ev,Tr h1,Hk h2,U.fg];rfl)
 .cases h
theorem Y6{d:Nat}{x:YO}(h:ev (.Mx d x:YOp R) S K=some r):Plain (.Mx d x:YOp R) S K r:=by
 simp only [ev] at h;split at h
 .rename_i q ks h1;exact A0 h (AV.refl _) (by simp only [YOp.er,Lv.ev,Tr h1];rfl)
 .cases h
theorem Y7{x k v:YO}(h:ev (.MI x k v:YOp R) S K=some r):Plain (.MI x k v:YOp R) S K r:=by
 simp only [ev] at h;split at h
 .rename_i q ks n m h1 h2 h3;refine⟨_,?_,(AV.Aa _ _ _).trans (AV.kill _ _),h⟩;simp only [YOp.er,Lv.ev,Tr h1,Hk h2,Hk h3,U.fg];rw [<-E6 (JV q),DB];rfl
 .cases h
theorem lS{o:YOp R}(h:ev o S K=some r):∃S',AV S S'/\K S'=some r/\∀N:Lv.St->Prop,N (S'.fg R)->opK Ev o.er (S.fg R) N:=by
 have pl:Plain o S K r->∃S',AV S S'/\K S'=some r/\∀N:Lv.St->Prop,N (S'.fg R)->opK Ev o.er (S.fg R) N:=fun ⟨S',h1,h2,h3⟩=>⟨S',h2,h3,fun N hN=>.inl ⟨_,h1,hN⟩⟩
 cases o with
 |mv=>exact pl (sb h)
 |as=>exact pl (sW h)
 |pick=>exact pl (Y8 h)
 |alloc=>exact pl (UY h)
 |box=>exact pl (ic h)
 |build=>exact pl (UZ h)
 |AR=>exact pl (Pl h)
 |ld=>exact pl (sa h)
 |st=>exact pl (sd h)
 |chk=>exact pl (ie h)
 |bin=>exact pl (ib h)
 |un=>exact pl (se h)
 |cvI=>exact pl (ij h)
 |Mm=>exact pl (Y1 h)
 |MH=>exact pl (Y0 h)
 |Ph=>exact pl (Y4 h)
 |Mw=>exact pl (Y5 h)
 |sub=>exact pl (ir h)
 |Of=>exact pl (Y9 h)
 |fa=>exact pl (sX h)
 |fld=>exact pl (il h)
 |ia=>exact pl (sY h)
 |ix=>exact pl (sZ h)
 |ext=>exact pl (ik h)
 |len=>exact pl (im h)
 |lens=>exact pl (Y2 h)
 |app=>exact pl (iZ h)
 |MG=>exact pl (Yz h)
 |cpy=>exact pl (ig h)
 |mm=>exact pl (lu h)
 |mmk=>exact pl (iq h)
 |Mv=>exact pl (Y3 h)
 |MI=>exact pl (Y7 h)
 |Mx=>exact pl (Y6 h)
 |bad=>simp [ev] at h
 |drop ds=>exact pl ⟨_,by simp only [YOp.er,Lv.ev,bq],AV.Dr _ _,h⟩
 |A6 ns=>exact pl ⟨_,by simp only [YOp.er,Lv.ev,Yl],AV.JS _ _,h⟩
 |call d g fs hf args=>
  simp only [ev] at h;split at h
  .rename_i es he;obtain⟨S1,vs,cs,outs,S',h1,h2,h3,h4,h5⟩:=aG (Al.of hf) h;refine⟨S',h4,h5,fun N hN=>.inr ⟨d,g.x,es.map (En.fg R),S1,vs,_,cs,outs,_,?_,h1,h2,h3,hN⟩⟩;simp only [YOp.er,Lv.CY,Pu he]
  .cases h
 |Fu d x ms args=>
  simp only [ev] at h;split at h
  .rename_i n caps es h0 he;split at h
   .rename_i g hg;split at h
    .rename_i hm;obtain⟨S1,vs,cs,outs,S',h1,h2,h3,h4,h5⟩:=aG (Al.nil _) h;refine⟨S',h4,h5,fun N hN=>.inr ⟨d,g.x,_,S1,vs,_,cs,outs,_,?_,h1,h2,h3,hN⟩⟩;have hx:xr R n=g.x:=by unfold xr;rw [hg]
     simp only [YOp.er,Lv.CY,CC h0,Pu he,AF.fg,hx];rw [if_pos (by rw [g.ms,hm])];simp only [List.map_append,List.map_map,Option.some.injEq,Prod.mk.injEq,true_and,List.append_cancel_left_eq];apply List.map_congr_left;intro c _;simp only [Function.comp,En.fg,List.map_cons,List.map_nil,P8]
    .cases h
   .cases h
  .cases h
end
end Y
end Lv
namespace Lv
open Go (IntKind BinOp UnOp)
namespace Y
section
variable{R:List GF}{ρ:Type}
def Ad.er:Ad R->Ju
 |.nil=>.nil
 |.op i g sf o rest=>.op i g sf o.er rest.er
 |.dr ds rest=>.dr ds rest.er
 |.nl ns rest=>.nl (ns.map fun p=>(p.1,p.2.size)) rest.er
 |.both _ a b=>.both a.er b.er
def DS.er:DS R->Gr
 |.skip=>.skip
 |.region ops _=>.region (ops.map fun p=>(p.1,p.2.er)) []
 |.BW r _=>.BW r.er []
 |.seq a b=>.seq a.er b.er
 |.join _ a b=>.seq a.er b.er
 |.cond c _ _ t e=>.cond c [] [] t.er e.er
 |.block id b=>.block id b.er
 |.loop _ b=>.loop b.er
 |.exit id=>.exit id
 |.ret=>.ret
 |.scope b=>.scope b.er
 |.or a b=>.or a.er b.er
 |.dead=>.dead
 |.xW _ b=>.loop b.er
theorem yx(o:YOp R):o.er.SZ=o.SZ:=by cases o <;> rfl
theorem U6{o:YOp R}{S:St}{K:St->Option ρ}{r:ρ}(h:F7 o S K=some r):∃S',Lv.F7 o.er (S.fg R)=some (S'.fg R)/\AV S S'/\K S'=some r:=by
 unfold F7 at h;unfold Lv.F7;rw [yx];split at h
 .rename_i d hd;obtain⟨S',h1,h2,h3⟩:=RD (R:=R) h;rw [hd];exact⟨S',h1,h2,h3⟩
 .rename_i hd;rw [hd];exact⟨S,rfl,AV.refl _,h⟩
theorem uU{s:Nat}{e x:Ent}:∀{l:List (Nat×Ent)},get l s=some x->e.fg R=x.fg R->fgE R (reE s e l)=fgE R l
 | [],h,_=>rfl
 |(k,y)::l,h,he=>by
  simp only [get] at h;simp only [reE];cases hb:Nat.beq k s with
  |true=>rw [hb] at h;cases h;simp only [fgE,List.map_cons,he]
  |false=>
   rw [hb] at h;have:=uU (l:=l) h he;simp only [fgE,List.map_cons] at this ⊢;rw [this]
theorem lW{s:Nat}{e:Ent}:∀{l:List (Nat×Ent)} {k:Nat} {y:Ent},get (reE s e l) k=some y->y=e\/get l k=some y
 | [],k,y,h=>.inr h
 |(j,x)::l,k,y,h=>by
  simp only [reE] at h;cases hb:Nat.beq j s with
  |true=>
   rw [hb] at h;simp only [get] at h ⊢;cases hk:Nat.beq j k with
   |true=>rw [hk] at h;cases h;exact .inl rfl
   |false=>rw [hk] at h;exact .inr h
  |false=>
   rw [hb] at h;simp only [get] at h ⊢;cases hk:Nat.beq j k with
   |true=>rw [hk] at h;exact .inr h
   |false=>rw [hk] at h;exact lW h
theorem zF{S:St}{s:Nat}{b:Bool}{v:Nat}(h:get S.tm s=some ⟨.one,[.t (.bool b)],v⟩):(S.lit s b).fg R=S.fg R/\AV S (S.lit s b):=by
 refine⟨?_,by simp [St.lit],fun k e he hv=>?_,fun _ _ h _=>h,rfl⟩
 .simp only [St.fg,St.lit];have:=uU (R:=R) (e:=⟨.one,[.t (.bool b)],S.nv⟩) h rfl;rw [this]
 .rcases lW he with rfl|h1
  .exact(Nat.lt_irrefl _ hv).elim
  .exact h1
def Gd(R:List GF)(g:Option (Nat×Bool))(o:YOp R)(S:Lv.St)(N:Lv.St->Prop):Prop:=
 ∃b,Lv.wanted S g=some b/\((b=true/\opK Ev o.er S N)\/(b=false/\∃S',Lv.F7 o.er S=some S'/\N S'))
theorem XW{S:St}{s:Nat}{w b:Bool}{v:Nat}(h:get S.tm s=some ⟨.one,[.t (.bool b)],v⟩):Lv.wanted (S.fg R) (some (s,w))=some (b==w):=by
 simp only [Lv.wanted,N5,h];rfl
theorem fD{S:St}{s:Nat}{w:Bool}{v:Nat}(h:get S.tm s=some ⟨.one,[.und],v⟩):Lv.wanted (S.fg R) (some (s,w))=some false:=by
 simp only [Lv.wanted,N5,h];rfl
theorem LV{S:St}{s:Nat}{w b:Bool}{v:Nat}{o:YOp R}{f:Option ρ}{K:St->Option ρ}{r:ρ}{P:Lv.St->(Lv.St->Prop)->Prop}(hg:get S.tm s=some ⟨.one,[.t (.bool b)],v⟩)(x:Bool)(hx:x=(b==w))
 (h:Uc x o (S.lit s b) f K=some r) (hf:f=some r->∃S',AV (S.lit s b) S'/\K S'=some r/\∀N:Lv.St->Prop,N (S'.fg R)->P ((S.lit s b).fg R) N) :
 ∃S',AV S S'/\K S'=some r/\∀N:Lv.St->Prop,N (S'.fg R)->∃b,Lv.wanted (S.fg R) (some (s,w))=some b/\((b=true/\P (S.fg R) N)\/(b=false/\∃S',Lv.F7 o.er (S.fg R)=some S'/\N S')):=by
 obtain⟨hl,hk⟩:=zF (R:=R) hg;cases x with
 |true=>
  obtain⟨S',h1,h2,h3⟩:=hf h;refine⟨S',hk.trans h1,h2,fun N hN=>⟨_,XW hg,.inl ⟨hx.symm,?_⟩⟩⟩;have:=h3 N hN
  rwa [hl] at this
 |false=>
  obtain⟨S',h1,h2,h3⟩:=U6 (R:=R) h;refine⟨S',hk.trans h2,h3,fun N hN=>⟨_,XW hg,.inr ⟨hx.symm,_,?_,hN⟩⟩⟩
  rwa [hl] at h1
theorem y5{g:Option (Nat×Bool)}{o:YOp R}{S:St}{K:St->Option ρ}{r:ρ}(h:evg g o S K=some r) :
 ∃S',AV S S'/\K S'=some r/\∀N:Lv.St->Prop,N (S'.fg R)->Gd R g o (S.fg R) N:=by
 unfold evg at h;split at h
 .obtain⟨S',h1,h2,h3⟩:=lS h;exact⟨S',h1,h2,fun N hN=>⟨true,rfl,.inl ⟨rfl,h3 N hN⟩⟩⟩
 .rename_i s w;split at h
  .rename_i b v hg;rcases jU h with ⟨rfl,h'⟩|⟨rfl,h'⟩
   .exact LV (P:=opK Ev o.er) hg w (by cases w <;> rfl) h' fun hf=>lS hf
   .exact LV (P:=opK Ev o.er) hg (!w) (by cases w <;> rfl) h' fun hf=>lS hf
  .rename_i v hg;obtain⟨S',h1,h2,h3⟩:=U6 (R:=R) h;exact⟨S',h2,h3,fun N hN=>⟨false,fD hg,.inr ⟨rfl,_,h1,hN⟩⟩⟩
  .cases h
theorem rP:∀{ops:List (Option (Nat×Bool)×YOp R)} {S:St} {K:St->Option ρ} {r:ρ},evs ops S K=some r ->
 ∃S',AV S S'/\K S'=some r/\∀N:Lv.St->Prop,N (S'.fg R)->iu Ev (ops.map fun p=>(p.1,p.2.er)) (S.fg R) N
 | [],S,K,r,h=>⟨S,AV.refl _,h,fun N hN=>hN⟩
 |(g,o)::ops,S,K,r,h=>by
  have h':evg g o S (fun S'=>evs ops S' K)=some r:=by
   simp only [evs] at h;split at h
   .exact h
   .simpa only [force_eq] using h
  obtain⟨S1,h1,h2,h3⟩:=y5 h';obtain⟨S2,h4,h5,h6⟩:=rP h2;exact⟨S2,h1.trans h4,h5,fun N hN=>h3 _ (h6 N hN)⟩
theorem AAJ(o:YOp R):o.er.wr=o.wr.map (YO.er R):=by cases o <;> rfl
theorem Ov(l:AF):∀(ks:List PK) (es:List En),Lv.Ei (AF.fg R l) (ks.map PK.md) (es.map (En.fg R))=Ei l ks es
 | [],es=>by cases es <;> rfl
 |k::ks,[]=>rfl
 |k::ks,e::es=>by
  simp only [List.map_cons,Lv.Ei,Ei,XX,En.fg,List.all_map,Function.comp_def,pX,Ov l ks es]
theorem xD{S:St}{l:AF}(h:S.Gy l=true):(S.fg R).Gy (AF.fg R l)=true:=by
 unfold St.Gy at h;split at h
 .simp only [AF.fg,Lv.St.Gy,IP,Option.isSome_map];exact h
 .rfl
 .rename_i s cs;cases cs <;> simp_all [AF.fg,Lv.St.Gy]
 .simp only [AF.fg,Lv.St.Gy,Ey];split at h
  .rename_i x hx;rw [hx];simp only [Option.map_some,AF.fg,xI];exact h
  .cases h
 .rfl
 .rfl
 .cases h
theorem aH{o:YOp R}{S:Lv.St}(h1:∀d g fs hf args,o≠.call d g fs hf args)(h2:∀d x ms args,o≠.Fu d x ms args):Lv.CY o.er S=none:=by
 cases o <;> first|rfl|(exact(h1 _ _ _ _ _ rfl).elim)|(exact(h2 _ _ _ _ rfl).elim)
theorem ub{o:YOp R}{S:St}{l:AF}(h:MY o S l=true):Lv.MY o.er (S.fg R) (AF.fg R l)=true:=by
 unfold MY at h;simp only [Bool.and_eq_true] at h;obtain⟨h1,h2⟩:=h;unfold Lv.MY;rw [xD h1,Bool.true_and];have hr2:(AF.fg R l).Ac=l.Ac:=FD l;have gen:(∀d g fs hf args,o≠.call d g fs hf args)->(∀d x ms args,o≠.Fu d x ms args) ->
  (match o.wr with|some y=>(match S.one y with|some lt=>l.Ac.isNone||!(match l.Ac with|some r=>isR lt.Ac r|none=>lt.Ac.isNone)|none=>false)|none=>true)=true ->
  (match Lv.CY o.er (S.fg R) with
  |some (_,f,es)=>Lv.Ei (AF.fg R l) (CG f) es
  |none=>match o.er.wr with
   |some y=>(match (S.fg R).one y with|some lt=>(AF.fg R l).Ac.isNone||decide ((AF.fg R l).Ac≠lt.Ac)|none=>true)
   |none=>true)=true:=by
  intro n1 n2 h;rw [aH n1 n2,AAJ];cases hy:o.wr with
  |none=>rfl
  |some y=>
   rw [hy] at h;dsimp only at h;cases ho:S.one y with
   |none=>rw [ho] at h;cases h
   |some lt=>
    rw [ho] at h;dsimp only at h ⊢;simp only [Option.map_some,CC ho];rw [hr2,FD,decide_not,<-uY];exact h
 cases o with
 |st n x v=>
  dsimp only at h2;have h4:Lv.names (AF.fg R l)=names l:=UO l;generalize AF.fg R l=L at h4 hr2 ⊢;cases ho:S.one x with
  |none=>rw [ho] at h2;cases h2
  |some lp=>
   rw [ho] at h2;have h3:=CC (R:=R) ho;simp only [YOp.er,h3];cases lp with
   |bp id o=>
    dsimp only at h2;show (!(Lv.names L).contains id)=true;rw [h4,List.contains_eq_mem,<-Lm];exact h2
   |ep r0 i j=>
    dsimp only at h2;show decide (L.Ac≠some r0)=true;rw [hr2];rw [PX] at h2;simpa using h2
   |_=>cases h2
 |call d g fs hf args=>
  dsimp only at h2;cases hr:S.rds args with
  |none=>rw [hr] at h2;cases h2
  |some es=>
   rw [hr] at h2;have h3:=Ov (R:=R) l g.ps es;generalize AF.fg R l=L at h3 ⊢;simp only [YOp.er,Lv.CY,Pu hr,g.ms];rw [h3];exact h2
 |Fu d x ms args=>
  dsimp only at h2;split at h2
  .rename_i n caps es h4 h5;split at h2
   .rename_i g h6;split at h2
    .rename_i h7;have hx:xr R n=g.x:=by unfold xr;rw [h6]
     have h8:=Ov (R:=R) l g.ps (es++caps.map fun l=>⟨.one,[l.leaf]⟩);rw [List.map_append,List.map_map] at h8;rw [show (En.fg R∘fun l=>(⟨.one,[l.leaf]⟩:En))=((fun l=>(⟨Sh.one,[l]⟩:Lv.Ent))∘Cap.fg) from by funext c;simp only [Function.comp,En.fg,List.map_cons,List.map_nil,P8],<-List.map_map] at h8;have h9:=CC (R:=R) h4;simp only [AF.fg,hx] at h9;generalize AF.fg R l=L at h8 ⊢;simp only [YOp.er,Lv.CY,h9,Pu h5];rw [if_pos (by rw [g.ms,h7])];dsimp only;rw [g.ms,h8];exact h2
    .cases h2
   .cases h2
  .cases h2
 |_=>exact gen (by intros;simp) (by intros;simp) h2
theorem du{o:YOp R}{S:St}:∀{sf:List Nat},Ee o S sf=true->Lv.Ee o.er (S.fg R) sf=true
 | [],h=>rfl
 |s::sf,h=>by
  simp only [Ee,Bool.and_eq_true] at h;obtain⟨h1,h2⟩:=h;simp only [Lv.Ee,Bool.and_eq_true];refine⟨?_,du h2⟩;split at h1
  .rename_i l hl;have:=CC (R:=R) hl;simp only [YO.er] at this;rw [this];exact ub h1
  .cases h1
theorem YW:∀{a b:List (Option Nat)},nB a b=true->a=b
 | [],[],_=>rfl
 |none::r,none::r',h=>by simp only [nB] at h;rw [YW h]
 |some a::r,some b::r',h=>by simp only [nB,Bool.and_eq_true] at h;rw [beq_true h.1,YW h.2]
 | [],_::_,h=>by cases h
 |none::_,[],h=>by cases h
 |some _::_,[],h=>by cases h
 |none::_,some _::_,h=>by cases h
 |some _::_,none::_,h=>by cases h
theorem w9{a b:Sh}(h:y3 a b=true):a=b:=by
 cases a <;> cases b <;> first|rfl|(cases h;done)|(simp only [y3] at h;first|rw [YW h]|rw [beq_true h])
theorem bz:∀{a b:Option (Nat×Nat)},lP a b=true->a=b
 |none,none,_=>rfl
 |some (a,b),some (a',b'),h=>by simp only [lP,Bool.and_eq_true] at h;rw [beq_true h.1,beq_true h.2]
 |none,some _,h=>by cases h
 |some _,none,h=>by cases h
theorem Px:∀{a b:Ak},Ak.is a b=true->a=b
 |.tmp s c,.tmp s' c',h=>by
  simp only [Ak.is] at h;split at h
  .rename_i h1;rw [beq_true h1,beq_true h]
  .cases h
 |.cell s c,.cell s' c',h=>by
  simp only [Ak.is] at h;split at h
  .rename_i h1;rw [beq_true h1,beq_true h]
  .cases h
 |.tmp _ _,.cell _ _,h=>by cases h
 |.cell _ _,.tmp _ _,h=>by cases h
theorem bw{a b:Src}(h:lO a b=true):a=b:=by
 cases a <;> cases b <;> simp only [lO,Bool.and_eq_true] at h <;> first|(cases h;done)|rw [Px h.1,bz h.2]|rw [beq_true h]
theorem lN:∀{a b:List (Nat×Nat)},w8 a b=true->a=b
 | [],[],_=>rfl
 |(a,b)::r,(a',b')::r',h=>by simp only [w8,Bool.and_eq_true] at h;rw [beq_true h.1.1,beq_true h.1.2,lN h.2]
 | [],_::_,h=>by cases h
 |_::_,[],h=>by cases h
theorem Ky{γ:Type}{b:Bool}{x:Option γ}{r:γ}(h:ifB b x=some r):b=true/\x=some r:=by
 cases b with
 |true=>exact⟨rfl,h⟩
 |false=>cases h
theorem fN{x y:U}{X:Option ρ}{r:ρ}(h:agU x y X=some r):x=y/\X=some r:=by
 cases x <;> cases y <;> simp only [agU] at h <;> first|(cases h;done)|exact⟨rfl,h⟩|skip
 .split at h
  .rename_i hk;obtain⟨rfl,h1⟩:=KJ h;subst hk;exact⟨rfl,h1⟩
  .cases h
 .obtain⟨rfl,h1⟩:=KJ h;exact⟨rfl,h1⟩
 .obtain⟨rfl,h1⟩:=KJ h;exact⟨rfl,h1⟩
 .obtain⟨rfl,h1⟩:=KJ h;exact⟨rfl,h1⟩
 .split at h
  .rename_i hk;subst hk;obtain⟨rfl,h1⟩:=KJ h;exact⟨rfl,h1⟩
  .cases h
 .obtain⟨rfl,h1⟩:=KJ h;exact⟨rfl,h1⟩
theorem jO:∀{x y:List U} {X:Option ρ} {r:ρ},yd x y X=some r->x=y/\X=some r
 | [],[],X,r,h=>⟨rfl,h⟩
 |a::x,b::y,X,r,h=>by
  obtain⟨rfl,h1⟩:=fN h;obtain⟨rfl,h2⟩:=jO h1;exact⟨rfl,h2⟩
 | [],_::_,_,_,h=>by cases h
 |_::_,[],_,_,h=>by cases h
theorem qD{c c':C}{xs:List c.D}{ys:List c'.D}{X:Option ρ}{r:ρ}(h:(if h:c'=c then eqv xs (h▸ys) X else none)=some r):(⟨c,xs⟩:(c:C)×List c.D)=⟨c',ys⟩/\X=some r:=by
 split at h
 .rename_i hk;subst hk;obtain⟨rfl,h1⟩:=KJ h;exact⟨rfl,h1⟩
 .cases h
theorem vW:∀{x y:AF} {X:Option ρ} {r:ρ},zq x y X=some r->x=y/\X=some r
 |.t x,.t y,X,r,h=>by obtain⟨rfl,h1⟩:=fN h;exact⟨rfl,h1⟩
 |.und,.und,X,r,h=>⟨rfl,h⟩
 |.ow x,.ow y,X,r,h=>by obtain⟨rfl,h1⟩:=fN h;exact⟨rfl,h1⟩
 |.owh c xs hs,.owh c' ys hs',X,r,h=>by
  obtain⟨h1,h3⟩:=Ky h;obtain⟨h2,h4⟩:=qD h3;cases h2;rw [lN h1];exact⟨rfl,h4⟩
 |.al r0 s,.al r' s',X,r,h=>by
  obtain⟨h1,h⟩:=Ky h;simp only [Bool.and_eq_true] at h1;rw [Px h1.1,bz h1.2];exact⟨rfl,h⟩
 |.ep r0 i j,.ep r' i' j',X,r,h=>by
  obtain⟨h1,h⟩:=Ky h;simp only [Bool.and_eq_true] at h1;obtain⟨rfl,h4⟩:=KJ h;rw [Px h1.1,beq_true h1.2];exact⟨rfl,h4⟩
 |.vw s c xs,.vw s' c' ys,X,r,h=>by
  obtain⟨h1,h3⟩:=Ky h;obtain⟨h2,h4⟩:=qD h3;cases h2;rw [bw h1];exact⟨rfl,h4⟩
 |.vp s cs,.vp s' cs',X,r,h=>by
  obtain⟨h1,h⟩:=Ky h;obtain⟨rfl,h4⟩:=jO h;rw [bw h1];exact⟨rfl,h4⟩
 |.bp a o,.bp a' o',X,r,h=>by
  obtain⟨h1,h⟩:=Ky h;simp only [Bool.and_eq_true] at h1;rw [beq_true h1.1,beq_true h1.2];exact⟨rfl,h⟩
 |.fn _ _,.fn _ _,_,_,h=>by cases h
 |.t _,.und,_,_,h=>by cases h
 |.t _,.ow _,_,_,h=>by cases h
 |.t _,.owh _ _ _,_,_,h=>by cases h
 |.t _,.al _ _,_,_,h=>by cases h
 |.t _,.ep _ _ _,_,_,h=>by cases h
 |.t _,.vw _ _ _,_,_,h=>by cases h
 |.t _,.vp _ _,_,_,h=>by cases h
 |.t _,.bp _ _,_,_,h=>by cases h
 |.t _,.fn _ _,_,_,h=>by cases h
 |.und,.t _,_,_,h=>by cases h
 |.und,.ow _,_,_,h=>by cases h
 |.und,.owh _ _ _,_,_,h=>by cases h
 |.und,.al _ _,_,_,h=>by cases h
 |.und,.ep _ _ _,_,_,h=>by cases h
 |.und,.vw _ _ _,_,_,h=>by cases h
 |.und,.vp _ _,_,_,h=>by cases h
 |.und,.bp _ _,_,_,h=>by cases h
 |.und,.fn _ _,_,_,h=>by cases h
 |.ow _,.t _,_,_,h=>by cases h
 |.ow _,.und,_,_,h=>by cases h
 |.ow _,.owh _ _ _,_,_,h=>by cases h
 |.ow _,.al _ _,_,_,h=>by cases h
 |.ow _,.ep _ _ _,_,_,h=>by cases h
 |.ow _,.vw _ _ _,_,_,h=>by cases h
 |.ow _,.vp _ _,_,_,h=>by cases h
 |.ow _,.bp _ _,_,_,h=>by cases h
 |.ow _,.fn _ _,_,_,h=>by cases h
 |.owh _ _ _,.t _,_,_,h=>by cases h
 |.owh _ _ _,.und,_,_,h=>by cases h
 |.owh _ _ _,.ow _,_,_,h=>by cases h
 |.owh _ _ _,.al _ _,_,_,h=>by cases h
 |.owh _ _ _,.ep _ _ _,_,_,h=>by cases h
 |.owh _ _ _,.vw _ _ _,_,_,h=>by cases h
 |.owh _ _ _,.vp _ _,_,_,h=>by cases h
 |.owh _ _ _,.bp _ _,_,_,h=>by cases h
 |.owh _ _ _,.fn _ _,_,_,h=>by cases h
 |.al _ _,.t _,_,_,h=>by cases h
 |.al _ _,.und,_,_,h=>by cases h
 |.al _ _,.ow _,_,_,h=>by cases h
 |.al _ _,.owh _ _ _,_,_,h=>by cases h
 |.al _ _,.ep _ _ _,_,_,h=>by cases h
 |.al _ _,.vw _ _ _,_,_,h=>by cases h
 |.al _ _,.vp _ _,_,_,h=>by cases h
 |.al _ _,.bp _ _,_,_,h=>by cases h
 |.al _ _,.fn _ _,_,_,h=>by cases h
 |.ep _ _ _,.t _,_,_,h=>by cases h
 |.ep _ _ _,.und,_,_,h=>by cases h
 |.ep _ _ _,.ow _,_,_,h=>by cases h
 |.ep _ _ _,.owh _ _ _,_,_,h=>by cases h
 |.ep _ _ _,.al _ _,_,_,h=>by cases h
 |.ep _ _ _,.vw _ _ _,_,_,h=>by cases h
 |.ep _ _ _,.vp _ _,_,_,h=>by cases h
 |.ep _ _ _,.bp _ _,_,_,h=>by cases h
 |.ep _ _ _,.fn _ _,_,_,h=>by cases h
 |.vw _ _ _,.t _,_,_,h=>by cases h
 |.vw _ _ _,.und,_,_,h=>by cases h
 |.vw _ _ _,.ow _,_,_,h=>by cases h
 |.vw _ _ _,.owh _ _ _,_,_,h=>by cases h
 |.vw _ _ _,.al _ _,_,_,h=>by cases h
 |.vw _ _ _,.ep _ _ _,_,_,h=>by cases h
 |.vw _ _ _,.vp _ _,_,_,h=>by cases h
 |.vw _ _ _,.bp _ _,_,_,h=>by cases h
 |.vw _ _ _,.fn _ _,_,_,h=>by cases h
 |.vp _ _,.t _,_,_,h=>by cases h
 |.vp _ _,.und,_,_,h=>by cases h
 |.vp _ _,.ow _,_,_,h=>by cases h
 |.vp _ _,.owh _ _ _,_,_,h=>by cases h
 |.vp _ _,.al _ _,_,_,h=>by cases h
 |.vp _ _,.ep _ _ _,_,_,h=>by cases h
 |.vp _ _,.vw _ _ _,_,_,h=>by cases h
 |.vp _ _,.bp _ _,_,_,h=>by cases h
 |.vp _ _,.fn _ _,_,_,h=>by cases h
 |.bp _ _,.t _,_,_,h=>by cases h
 |.bp _ _,.und,_,_,h=>by cases h
 |.bp _ _,.ow _,_,_,h=>by cases h
 |.bp _ _,.owh _ _ _,_,_,h=>by cases h
 |.bp _ _,.al _ _,_,_,h=>by cases h
 |.bp _ _,.ep _ _ _,_,_,h=>by cases h
 |.bp _ _,.vw _ _ _,_,_,h=>by cases h
 |.bp _ _,.vp _ _,_,_,h=>by cases h
 |.bp _ _,.fn _ _,_,_,h=>by cases h
 |.fn _ _,.t _,_,_,h=>by cases h
 |.fn _ _,.und,_,_,h=>by cases h
 |.fn _ _,.ow _,_,_,h=>by cases h
 |.fn _ _,.owh _ _ _,_,_,h=>by cases h
 |.fn _ _,.al _ _,_,_,h=>by cases h
 |.fn _ _,.ep _ _ _,_,_,h=>by cases h
 |.fn _ _,.vw _ _ _,_,_,h=>by cases h
 |.fn _ _,.vp _ _,_,_,h=>by cases h
 |.fn _ _,.bp _ _,_,_,h=>by cases h
theorem XZ:∀{x y:List AF} {X:Option ρ} {r:ρ},vX x y X=some r->x=y/\X=some r
 | [],[],X,r,h=>⟨rfl,h⟩
 |a::x,b::y,X,r,h=>by
  obtain⟨rfl,h1⟩:=vW h;obtain⟨rfl,h2⟩:=XZ h1;exact⟨rfl,h2⟩
 | [],_::_,_,_,h=>by cases h
 |_::_,[],_,_,h=>by cases h
theorem Qn{a b:Nat}(h:Nat.blt a b=true):a<b:=by simp [Nat.blt] at h;omega
theorem fM{v:Nat}{P:Nat->Ent->Prop}(hP:∀k e e',P k e->P k e'->e=e'):∀{x y:List (Nat×Ent)} {X:Option ρ} {r:ρ},(∀k e,(k,e)∈x->e.ver<v->P k e)->(∀k e,(k,e)∈y->e.ver<v->P k e)->agE v x y X=some r->fgE R x=fgE R y/\X=some r
 | [],[],X,r,_,_,h=>⟨rfl,h⟩
 |(k,e)::x,(k',e')::y,X,r,hx,hy,h=>by
  simp only [agE] at h;split at h
  .rename_i hk;have:=beq_true hk;subst this;split at h
   .rename_i hv;simp only [Bool.and_eq_true] at hv;have:=hP k e e' (hx k e (List.mem_cons_self ..) (Qn hv.1)) (hy k e' (List.mem_cons_self ..) (Qn hv.2));subst this;obtain⟨h1,h2⟩:=fM hP (fun k e hm=>hx k e (List.mem_cons_of_mem _ hm)) (fun k e hm=>hy k e (List.mem_cons_of_mem _ hm)) h;exact⟨by unfold fgE at h1 ⊢;rw [List.map_cons,List.map_cons,h1],h2⟩
   .obtain⟨h3,h⟩:=Ky h;obtain⟨h4,h⟩:=XZ h;obtain⟨h1,h2⟩:=fM hP (fun k e hm=>hx k e (List.mem_cons_of_mem _ hm)) (fun k e hm=>hy k e (List.mem_cons_of_mem _ hm)) h;exact⟨by unfold fgE at h1 ⊢;rw [List.map_cons,List.map_cons,h1];simp only [Ent.fg,w9 h3,h4],h2⟩
  .cases h
 | [],_::_,_,_,_,_,h=>by cases h
 |_::_,[],_,_,_,_,h=>by cases h
theorem fL{v:Nat}{P:Nat->Bx->Prop}(hP:∀k e e',P k e->P k e'->e=e'):∀{x y:List (Nat×Bx)} {X:Option ρ} {r:ρ},(∀k e,(k,e)∈x->e.ver<v->P k e)->(∀k e,(k,e)∈y->e.ver<v->P k e)->agB v x y X=some r->fgB R x=fgB R y/\X=some r
 | [],[],X,r,_,_,h=>⟨rfl,h⟩
 |(k,e)::x,(k',e')::y,X,r,hx,hy,h=>by
  simp only [agB] at h;split at h
  .rename_i hk;have:=beq_true hk;subst this;split at h
   .rename_i hv;simp only [Bool.and_eq_true] at hv;have:=hP k e e' (hx k e (List.mem_cons_self ..) (Qn hv.1)) (hy k e' (List.mem_cons_self ..) (Qn hv.2));subst this;obtain⟨h1,h2⟩:=fL hP (fun k e hm=>hx k e (List.mem_cons_of_mem _ hm)) (fun k e hm=>hy k e (List.mem_cons_of_mem _ hm)) h;exact⟨by unfold fgB at h1 ⊢;rw [List.map_cons,List.map_cons,h1],h2⟩
   .obtain⟨h4,h⟩:=XZ h;obtain⟨h1,h2⟩:=fL hP (fun k e hm=>hx k e (List.mem_cons_of_mem _ hm)) (fun k e hm=>hy k e (List.mem_cons_of_mem _ hm)) h;exact⟨by unfold fgB at h1 ⊢;rw [List.map_cons,List.map_cons,h1,h4],h2⟩
  .cases h
 | [],_::_,_,_,_,_,h=>by cases h
 |_::_,[],_,_,_,_,h=>by cases h
theorem cX{α:Type}{k:Nat}{e:α}:∀{l:List (Nat×α)},(k,e)∈l->QR k l=true
 |(j,x)::l,h=>by
  simp only [QR];cases hb:Nat.beq j k with
  |true=>rfl
  |false=>
   rcases List.mem_cons.1 h with h|h
   .cases h;rw [Nat.beq_refl] at hb;cases hb
   .exact cX h
theorem Ic{α:Type}{k:Nat}{e:α}:∀{l:List (Nat×α)},UR l=true->(k,e)∈l->get l k=some e
 |(j,x)::l,hd,h=>by
  simp only [UR,Bool.and_eq_true,Bool.not_eq_true'] at hd;simp only [get];rcases List.mem_cons.1 h with h|h
  .cases h;rw [Nat.beq_refl]
  .cases hb:Nat.beq j k with
   |true=>rw [beq_true hb,cX h] at hd;cases hd.1
   |false=>exact Ic hd.2 h
theorem yc{S A B:St}{X:Option ρ}{r:ρ}(hA:AV S A)(hB:AV S B)(h:agS S.nv A B X=some r):A.fg R=B.fg R/\X=some r:=by
 obtain⟨h1,h⟩:=Ky h;simp only [Bool.and_eq_true] at h1;obtain⟨⟨⟨n1,n2⟩,n3⟩,n4⟩:=h1;obtain⟨e1,h⟩:=fM (R:=R) (P:=fun k e=>get S.tm k=some e) (fun k e e' h h'=>by rw [h] at h';exact Option.some.inj h') (fun k e hm hv=>hA.tm k e (Ic n1 hm) hv) (fun k e hm hv=>hB.tm k e (Ic n2 hm) hv) h;obtain⟨e2,h⟩:=fL (R:=R) (P:=fun k e=>get S.bx k=some e) (fun k e e' h h'=>by rw [h] at h';exact Option.some.inj h') (fun k e hm hv=>hA.bx k e (Ic n3 hm) hv) (fun k e hm hv=>hB.bx k e (Ic n4 hm) hv) h;exact⟨by simp only [St.fg,e1,e2,hA.pin,hB.pin],h⟩
theorem PJ:∀{x:Ad R} {S:St} {K:St->Option ρ} {r:ρ},evr x S K=some r ->
 ∃S',AV S S'/\K S'=some r/\∀N:Lv.St->Prop,N (S'.fg R)->runK Ev x.er (S.fg R) N
 |.nil,S,K,r,h=>⟨S,AV.refl _,h,fun N hN=>hN⟩
 |.dr ds x,S,K,r,h=>by
  obtain⟨S',h1,h2,h3⟩:=PJ (x:=x) h;refine⟨S',(AV.Dr _ _).trans h1,h2,fun N hN=>?_⟩;have:=h3 N hN;rw [bq] at this;exact this
 |.nl ns x,S,K,r,h=>by
  obtain⟨S',h1,h2,h3⟩:=PJ (x:=x) h;refine⟨S',(AV.JS _ _).trans h1,h2,fun N hN=>?_⟩;have:=h3 N hN;rw [Yl] at this;exact this
 |.both n a b,S,K,r,h=>by
  have h:evr a S (fun A=>evr b S fun B=>agS S.nv A B (K A))=some r:=by
   cases n with
   |zero=>exact h
   |succ n=>simpa only [evr,jQ] using h
  obtain⟨A,a1,a2,a3⟩:=PJ (x:=a) (K:=fun A=>evr b S fun B=>agS S.nv A B (K A)) h;obtain⟨B,b1,b2,b3⟩:=PJ (x:=b) (K:=fun B=>agS S.nv A B (K A)) a2;obtain⟨e,h2⟩:=yc (R:=R) a1 b1 b2;exact⟨A,a1,h2,fun N hN=>⟨a3 N hN,b3 N (e▸hN)⟩⟩
 |.op i g sf o x,S,K,r,h=>by
  have safe:∀{S:St},(if Ee o S sf=true then ev o S fun S'=>S'.force fun S'=>evr x S' K else none)=some r ->
   ∃S',AV S S'/\evr x S' K=some r/\∀N:Lv.St->Prop,N (S'.fg R)->(Lv.Ee o.er (S.fg R) sf=true/\opK Ev o.er (S.fg R) N):=by
   intro S h;split at h
   .rename_i hs;obtain⟨S',h1,h2,h3⟩:=lS h;rw [force_eq] at h2;exact⟨S',h1,h2,fun N hN=>⟨du hs,h3 N hN⟩⟩
   .cases h
  have key:∃S',AV S S'/\evr x S' K=some r/\∀N:Lv.St->Prop,N (S'.fg R)->∃b,Lv.wanted (S.fg R) g=some b/\((b=true/\Lv.Ee o.er (S.fg R) sf=true/\opK Ev o.er (S.fg R) N)\/(b=false/\∃S',Lv.F7 o.er (S.fg R)=some S'/\N S')):=by
   simp only [evr,y8] at h;split at h
   .obtain⟨S',h1,h2,h3⟩:=safe h;exact⟨S',h1,h2,fun N hN=>⟨true,rfl,.inl ⟨rfl,h3 N hN⟩⟩⟩
   .rename_i s w;split at h
    .rename_i b v hg;rcases jU h with ⟨rfl,h'⟩|⟨rfl,h'⟩
     .refine LV (K:=fun S'=>evr x S' K) (P:=fun S N=>Lv.Ee o.er S sf=true/\opK Ev o.er S N) hg w (by cases w <;> rfl) (f:=if Ee o (S.lit s true) sf=true then ev o (S.lit s true) fun S'=>S'.force fun S'=>evr x S' K else none) ?_ fun hf=>safe hf
      simpa only [force_eq] using h'
     .refine LV (K:=fun S'=>evr x S' K) (P:=fun S N=>Lv.Ee o.er S sf=true/\opK Ev o.er S N) hg (!w) (by cases w <;> rfl) (f:=if Ee o (S.lit s false) sf=true then ev o (S.lit s false) fun S'=>S'.force fun S'=>evr x S' K else none) ?_ fun hf=>safe hf
      simpa only [force_eq] using h'
    .rename_i v hg;simp only [force_eq] at h;obtain⟨S',h1,h2,h3⟩:=U6 (R:=R) h;exact⟨S',h2,h3,fun N hN=>⟨false,fD hg,.inr ⟨rfl,_,h1,hN⟩⟩⟩
    .cases h
  obtain⟨S1,h1,h2,h3⟩:=key;obtain⟨S2,h4,h5,h6⟩:=PJ (x:=x) h2;exact⟨S2,h1.trans h4,h5,fun N hN=>h3 _ (h6 N hN)⟩
end
end Y
end Lv
namespace Lv
open Go (IntKind BinOp UnOp)
namespace Y
section
variable{R:List GF}{ρ:Type}
theorem rq{s:Option Src}{l:AF}{x:U}(h:rp s l=some x):rn s x=l:=by
 unfold rp at h;split at h
 .cases h
 .cases h
 .cases h
 .rename_i h1 h2 h3;cases h;cases s <;> cases x <;> first|rfl|(exact(h1 _ _ rfl).elim)|(exact(h2 rfl).elim)|(exact(h3 _ rfl).elim)
 .split at h
  .cases h;rfl
  .cases h
 .split at h
  .cases h;rfl
  .cases h
 .split at h
  .cases h
  .split at h
   .rename_i hq;subst hq;cases h;rfl
   .cases h
 .cases h
theorem Wo{s:Option Src}:∀{ls:List AF} {us:List U},Yi s ls=some us->us.map (rn s)=ls
 | [],us,h=>by cases h;rfl
 |l::ls,us,h=>by
  simp only [Yi] at h;split at h
  .rename_i x xs h1 h2;cases h;rw [List.map_cons,rq h1,Wo h2]
  .cases h
theorem ya{a:AL}{ls:List AF}{x:a.D}(h:a.un ls=some x):a.leaf x=ls:=by
 cases a with
 |val c s=>
  simp only [AL.un] at h;split at h
  .rename_i us hu;simp only [AL.leaf];rw [Pk h,Wo hu]
  .cases h
 |num k=>
  simp only [AL.un] at h;split at h
  .split at h
   .rename_i hk;subst hk;cases h;rfl
   .cases h
  .cases h
 |al r=>
  simp only [AL.un] at h;split at h
  .split at h
   .rename_i hk;subst hk;rfl
   .cases h
  .cases h
theorem Zj:∀{as:List AL} {ls:List AF} {x:TA as},xz as ls=some x->K3 as x=ls
 | [],ls,x,h=>by
  cases ls with
  |nil=>rfl
  |cons l ls=>cases h
 | [a],ls,x,h=>ya h
 |a::a'::as,ls,x,h=>by
  simp only [xz] at h;split at h
  .rename_i y z h1 h2;cases h;show a.leaf y++K3 (a'::as) z=ls;rw [ya h1,Zj h2,List.take_append_drop]
  .cases h
theorem Fb{b:Bool}{k:Nat}:∀{c:Cut} {ls:List AF},HN b k c=false->look b k (seg c ls)=none
 | [],ls,h=>rfl
 |(b',d,sh,as)::c,ls,h=>by
  simp only [HN] at h;simp only [seg,look];split at h
  .cases h
  .exact Fb h
theorem PN{S:St}{k:Nat}:∀{c:Cut} {ls:List AF},JD S c=some ls->HN false k c=true->∃e,get S.tm k=some e/\look false k (seg c ls)=some (e.sh,e.cs)
 | [],ls,h,hv=>by cases hv
 |(false,d,sh,as)::c,ls,h,hv=>by
  simp only [JD] at h;split at h
  .rename_i e ls' h1 h2;split at h
   .rename_i hc;cases h;simp only [HN] at hv;simp only [seg,look];split at hv
    .rename_i hm;have hd:d=k:=by simpa [Iz] using hm
     subst hd;refine⟨e,h1,?_⟩;rw [List.take_left' hc.2,Oa hc.1]
    .rename_i hm;rw [List.drop_left' hc.2];exact PN h2 hv
   .cases h
  .cases h
 |(true,d,sh,as)::c,ls,h,hv=>by
  simp only [JD] at h;split at h
  .rename_i e ls' h1 h2;split at h
   .rename_i hc;cases h;have ht:((true:Bool)==false)=false:=rfl;simp only [HN,ht,Bool.false_and] at hv;simp only [seg,look,ht,Bool.false_and];rw [List.drop_left' hc];exact PN h2 hv
   .cases h
  .cases h
theorem PM{S:St}{k:Nat}:∀{c:Cut} {ls:List AF},JD S c=some ls->HN true k c=true->∃e sh,get S.bx k=some e/\look true k (seg c ls)=some (sh,e.cs)
 | [],ls,h,hv=>by cases hv
 |(true,d,sh,as)::c,ls,h,hv=>by
  simp only [JD] at h;split at h
  .rename_i e ls' h1 h2;split at h
   .rename_i hc;cases h;simp only [HN] at hv;simp only [seg,look];split at hv
    .rename_i hm;have hd:d=k:=by simpa [Iz] using hm
     subst hd;refine⟨e,sh,h1,?_⟩;rw [List.take_left' hc]
    .rename_i hm;rw [List.drop_left' hc];exact PM h2 hv
   .cases h
  .cases h
 |(false,d,sh,as)::c,ls,h,hv=>by
  simp only [JD] at h;split at h
  .rename_i e ls' h1 h2;split at h
   .rename_i hc;cases h;have ht:((false:Bool)==true)=false:=rfl;simp only [HN,ht,Bool.false_and] at hv;simp only [seg,look,ht,Bool.false_and];rw [List.drop_left' hc.2];exact PM h2 hv
   .cases h
  .cases h
theorem mK{q:List (Bool×Nat×Sh×List AF)}{a:List (Nat×Ent)}{v:Nat}:∀{l:List (Nat×Ent)},(∀k e,(k,e)∈l->look false k q=some (e.sh,e.cs)\/(look false k q=none/\get a k=some e))->fgE R (Uw q a v l)=fgE R l
 | [],_=>rfl
 |(k,e)::l,h=>by
  have ih:=mK (v:=v) (l:=l) (fun k e hm=>h k e (List.mem_cons_of_mem _ hm));simp only [fgE,Uw,List.map_cons] at ih ⊢;rw [ih];rcases h k e (by simp) with h1|⟨h1,h2⟩
  .rw [h1];rfl
  .rw [h1,h2]
theorem mJ{q:List (Bool×Nat×Sh×List AF)}{a:List (Nat×Bx)}{v:Nat}:∀{l:List (Nat×Bx)},(∀k e,(k,e)∈l->(∃sh,look true k q=some (sh,e.cs))\/(look true k q=none/\get a k=some e))->fgB R (Uv q a v l)=fgB R l
 | [],_=>rfl
 |(k,e)::l,h=>by
  have ih:=mJ (v:=v) (l:=l) (fun k e hm=>h k e (List.mem_cons_of_mem _ hm));simp only [fgB,Uv,List.map_cons] at ih ⊢;rw [ih];rcases h k e (by simp) with ⟨sh,h1⟩|⟨h1,h2⟩
  .rw [h1]
  .rw [h1,h2]
theorem Pc{α:Type}{k:Nat}{e:α}:∀{l:List (Nat×α)},(k,e)∈l->QR k l=true
 |(j,x)::l,h=>by
  simp only [QR];cases hb:Nat.beq j k with
  |true=>rfl
  |false=>
   rcases List.mem_cons.1 h with h|h
   .cases h;exact(beq_false hb rfl).elim
   .exact Pc h
theorem XF{c:Cut}{a:List (Nat×Ent)}:∀{l:List (Nat×Ent)} {k:Nat} {e:Ent},mO c a l=true->(k,e)∈l->get l k=some e/\(HN false k c=true\/(HN false k c=false/\∃e',get a k=some e'/\e.ver=e'.ver))
 |(j,x)::l,k,e,h,hm=>by
  simp only [mO,Bool.and_eq_true,Bool.not_eq_true'] at h;obtain⟨⟨h1,h2⟩,h3⟩:=h;rcases List.mem_cons.1 hm with hm|hm
  .obtain⟨rfl,rfl⟩:=Prod.mk.injEq _ _ _ _▸hm;refine⟨by simp only [get];rw [show Nat.beq k k=true from by simp [Iz]],?_⟩;cases hv:HN false k c with
   |true=>exact .inl rfl
   |false=>
    rw [hv] at h1;dsimp only at h1;split at h1
    .rename_i e' he;exact .inr ⟨rfl,e',he,beq_true h1⟩
    .cases h1
  .obtain⟨h4,h5⟩:=XF h3 hm;refine⟨?_,h5⟩;simp only [get];cases hb:Nat.beq j k with
   |true=>rw [beq_true hb,Pc hm] at h2;cases h2
   |false=>exact h4
theorem XE{c:Cut}{a:List (Nat×Bx)}:∀{l:List (Nat×Bx)} {k:Nat} {e:Bx},mN c a l=true->(k,e)∈l->get l k=some e/\(HN true k c=true\/(HN true k c=false/\∃e',get a k=some e'/\e.ver=e'.ver))
 |(j,x)::l,k,e,h,hm=>by
  simp only [mN,Bool.and_eq_true,Bool.not_eq_true'] at h;obtain⟨⟨h1,h2⟩,h3⟩:=h;rcases List.mem_cons.1 hm with hm|hm
  .obtain⟨rfl,rfl⟩:=Prod.mk.injEq _ _ _ _▸hm;refine⟨by simp only [get];rw [show Nat.beq k k=true from by simp [Iz]],?_⟩;cases hv:HN true k c with
   |true=>exact .inl rfl
   |false=>
    rw [hv] at h1;dsimp only at h1;split at h1
    .rename_i e' he;exact .inr ⟨rfl,e',he,beq_true h1⟩
    .cases h1
  .obtain⟨h4,h5⟩:=XE h3 hm;refine⟨?_,h5⟩;simp only [get];cases hb:Nat.beq j k with
   |true=>rw [beq_true hb,Pc hm] at h2;cases h2
   |false=>exact h4
theorem qU{a b:Nat}(h:Nat.blt a b=true):a<b:=Nat.le_of_ble_eq_true h
theorem mX{v:Nat}:∀{l:List (Nat×Ent)} {k:Nat} {e:Ent},wfE v l=true->get l k=some e->e.ver<v
 |(j,x)::l,k,e,h,hg=>by
  simp only [wfE,Bool.and_eq_true] at h;simp only [get] at hg;split at hg
  .cases hg;exact qU h.1
  .exact mX h.2 hg
theorem mW{v:Nat}:∀{l:List (Nat×Bx)} {k:Nat} {e:Bx},wfB v l=true->get l k=some e->e.ver<v
 |(j,x)::l,k,e,h,hg=>by
  simp only [wfB,Bool.and_eq_true] at h;simp only [get] at hg;split at hg
  .cases hg;exact qU h.1
  .exact mW h.2 hg
structure Cp(c:Cut)(S S':St):Prop where
 tm:∀k e,HN false k c=false->get S'.tm k=some e->e.ver<S.nv->get S.tm k=some e
 bx:∀k e,HN true k c=false->get S'.bx k=some e->e.ver<S.nv->get S.bx k=some e
 pin:S'.pin=S.pin
theorem Cp.of{c:Cut}{S S':St}(h:AV S S'):Cp c S S':=⟨fun k e _=>h.tm k e,fun k e _=>h.bx k e,h.pin⟩
theorem YZ{c:Cut}{S S':St}{x:TA c.as}(h:c.fit S S'=some x)(hh:Cp c S S') :
 (c.st S S' x).fg R=S'.fg R /\
 (∀k e,(k,e)∈S'.tm->look false k (seg c (K3 c.as x))=some (e.sh,e.cs)\/(look false k (seg c (K3 c.as x))=none/\get S.tm k=some e)) /\
 (∀k e,(k,e)∈S'.bx->(∃sh,look true k (seg c (K3 c.as x))=some (sh,e.cs))\/(look true k (seg c (K3 c.as x))=none/\get S.bx k=some e)):=by
 unfold Cut.fit at h;split at h
 .rename_i hc;obtain⟨w1,w2,s1,s2⟩:=hc;split at h
  .rename_i ls hg;rw [Zj h];have hE:∀k e,(k,e)∈S'.tm->look false k (seg c ls)=some (e.sh,e.cs)\/(look false k (seg c ls)=none/\get S.tm k=some e):=by
    intro k e hm;obtain⟨h1,h2⟩:=XF s1 hm;rcases h2 with h2|⟨h2,e',h3,h4⟩
    .obtain⟨e2,h5,h6⟩:=PN hg h2;rw [h1] at h5;cases h5;exact .inl h6
    .exact .inr ⟨Fb h2,hh.tm k e h2 h1 (by rw [h4];exact mX w1 h3)⟩
   have hB:∀k e,(k,e)∈S'.bx->(∃sh,look true k (seg c ls)=some (sh,e.cs))\/(look true k (seg c ls)=none/\get S.bx k=some e):=by
    intro k e hm;obtain⟨h1,h2⟩:=XE s2 hm;rcases h2 with h2|⟨h2,e',h3,h4⟩
    .obtain⟨e2,sh,h5,h6⟩:=PM hg h2;rw [h1] at h5;cases h5;exact .inl ⟨sh,h6⟩
    .exact .inr ⟨Fb h2,hh.bx k e h2 h1 (by rw [h4];exact mW w2 h3)⟩
   refine⟨?_,hE,hB⟩;simp only [St.fg,Cut.st,Zj h];rw [mK hE,mJ hB,hh.pin]
  .cases h
 .cases h
theorem W9{q:List (Bool×Nat×Sh×List AF)}{a:List (Nat×Ent)}{v:Nat}:∀{l l':List (Nat×Ent)},HH l l'=true->(∀k e,(k,e)∈l'->look false k q=some (e.sh,e.cs)\/(look false k q=none/\get a k=some e))->Uw q a v l=Uw q a v l'
 | [],[],_,_=>rfl
 | [],_::_,h,_=>by cases h
 |_::_,[],h,_=>by cases h
 |(k,e)::l,(k',e')::l',h,hl=>by
  simp only [HH,Bool.and_eq_true] at h;obtain⟨h1,h2⟩:=h;have:=beq_true h1;subst this;have ih:=W9 (v:=v) h2 (fun k e hm=>hl k e (List.mem_cons_of_mem _ hm));simp only [Uw];rw [ih];rcases hl k e' (by simp) with h3|⟨h3,h4⟩
  .rw [h3]
  .rw [h3,h4]
theorem W8{q:List (Bool×Nat×Sh×List AF)}{a:List (Nat×Bx)}{v:Nat}:∀{l l':List (Nat×Bx)},HH l l'=true->(∀k e,(k,e)∈l'->(∃sh,look true k q=some (sh,e.cs))\/(look true k q=none/\get a k=some e))->Uv q a v l=Uv q a v l'
 | [],[],_,_=>rfl
 | [],_::_,h,_=>by cases h
 |_::_,[],h,_=>by cases h
 |(k,e)::l,(k',e')::l',h,hl=>by
  simp only [HH,Bool.and_eq_true] at h;obtain⟨h1,h2⟩:=h;have:=beq_true h1;subst this;have ih:=W8 (v:=v) h2 (fun k e hm=>hl k e (List.mem_cons_of_mem _ hm));simp only [Uv];rw [ih];rcases hl k e' (by simp) with ⟨sh,h3⟩|⟨h3,h4⟩
  .rw [h3]
  .rw [h3,h4]
theorem Sk{q:List (Bool×Nat×Sh×List AF)}{a:List (Nat×Ent)}{v k:Nat}(hq:look false k q=none):∀{l:List (Nat×Ent)} {y:Ent},get (Uw q a v l) k=some y->∃e,get l k=some e/\y=(match get a k with|some e'=>e'|none=>e)
 |(j,x)::l,y,h=>by
  simp only [Uw,get] at h ⊢;cases hb:Nat.beq j k with
  |true=>
   rw [hb] at h;have:=beq_true hb;subst this;rw [hq] at h;exact⟨x,rfl,(Option.some.inj h).symm⟩
  |false=>rw [hb] at h;exact Sk hq h
theorem Sj{q:List (Bool×Nat×Sh×List AF)}{a:List (Nat×Bx)}{v k:Nat}(hq:look true k q=none):∀{l:List (Nat×Bx)} {y:Bx},get (Uv q a v l) k=some y->∃e,get l k=some e/\y=(match get a k with|some e'=>e'|none=>e)
 |(j,x)::l,y,h=>by
  simp only [Uv,get] at h ⊢;cases hb:Nat.beq j k with
  |true=>
   rw [hb] at h;have:=beq_true hb;subst this;rw [hq] at h;exact⟨x,rfl,(Option.some.inj h).symm⟩
  |false=>rw [hb] at h;exact Sj hq h
theorem Cp.round{c:Cut}{S S':St}{x:TA c.as}(h:AV (c.st S S x) S'):Cp c S S':=by
 refine⟨fun k e hv hg hlt=>?_,fun k e hv hg hlt=>?_,h.pin⟩
 .have h1:=h.tm k e hg (Nat.lt_succ_of_lt hlt);obtain⟨e',h2,h3⟩:=Sk (Fb hv) h1;rw [h2] at h3;subst h3;exact h2
 .have h1:=h.bx k e hg (Nat.lt_succ_of_lt hlt);obtain⟨e',h2,h3⟩:=Sj (Fb hv) h1;rw [h2] at h3;subst h3;exact h2
theorem WY{c:Cut}{S S':St}{y:TA c.as}(h:c.fit S S'=some y)(hh:Cp c S S')(h1:HH S.tm S'.tm=true)(h2:HH S.bx S'.bx=true):(c.st S S y).fg R=S'.fg R:=by
 obtain⟨h3,h4,h5⟩:=YZ (R:=R) h hh;rw [<-h3];simp only [St.fg,Cut.st];rw [W9 h1 h4,W8 h2 h5]
theorem Pd{b:Bool}{k:Nat}:∀{c:Cut} {ls:List AF},HN b k c=true->∃p,look b k (seg c ls)=some p
 |(b',d,sh,as)::c,ls,h=>by
  simp only [HN] at h;simp only [seg,look];split at h
  .exact⟨_,rfl⟩
  .exact Pd h
theorem dk{q:List (Bool×Nat×Sh×List AF)}{a:List (Nat×Ent)}{v k:Nat}{p:Sh×List AF}(hp:look false k q=some p):∀{l:List (Nat×Ent)} {y:Ent},get (Uw q a v l) k=some y->v<=y.ver
 |(j,z)::l,y,h=>by
  simp only [Uw,get] at h;cases hb:Nat.beq j k with
  |true=>
   rw [hb] at h;have:=beq_true hb;subst this;rw [hp] at h;cases h;exact Nat.le_refl _
  |false=>rw [hb] at h;exact dk hp h
theorem dj{q:List (Bool×Nat×Sh×List AF)}{a:List (Nat×Bx)}{v k:Nat}{p:Sh×List AF}(hp:look true k q=some p):∀{l:List (Nat×Bx)} {y:Bx},get (Uv q a v l) k=some y->v<=y.ver
 |(j,z)::l,y,h=>by
  simp only [Uv,get] at h;cases hb:Nat.beq j k with
  |true=>
   rw [hb] at h;have:=beq_true hb;subst this;rw [hp] at h;cases h;exact Nat.le_refl _
  |false=>rw [hb] at h;exact dj hp h
theorem AV.st{c:Cut}{S S':St}{x:TA c.as}(hk:AV S S'):AV S (c.st S S' x):=by
 refine⟨by simp [Cut.st],fun k e he hv=>?_,fun k e he hv=>?_,rfl⟩
 .cases hvk:HN false k c with
  |false=>
   obtain⟨e',h4,h5⟩:=Sk (Fb hvk) he;cases hg:get S.tm k with
   |some e2=>rw [hg] at h5;subst h5;rfl
   |none=>
    rw [hg] at h5;subst h5;have:=hk.tm k _ h4 hv;rw [hg] at this;cases this
  |true=>
   obtain⟨p,hp⟩:=Pd (ls:=K3 c.as x) hvk;exact absurd hv (Nat.not_lt.2 (dk hp he))
 .cases hvk:HN true k c with
  |false=>
   obtain⟨e',h4,h5⟩:=Sj (Fb hvk) he;cases hg:get S.bx k with
   |some e2=>rw [hg] at h5;subst h5;rfl
   |none=>
    rw [hg] at h5;subst h5;have:=hk.bx k _ h4 hv;rw [hg] at this;cases this
  |true=>
   obtain⟨p,hp⟩:=Pd (ls:=K3 c.as x) hvk;exact absurd hv (Nat.not_lt.2 (dj hp he))
theorem Bp:∀{x:DS R} {S:St} {K:Ex->St->Option ρ} {r:ρ} {Q:Ex->Lv.St->Prop},DH x S K=some r->(∀e S',AV S S'->K e S'=some r->Q e (S'.fg R))->wp Ev x.er (S.fg R) Q
 |.skip,S,K,r,Q,h,hQ=>hQ _ _ (AV.refl _) h
 |.region ops CU,S,K,r,Q,h,hQ=>by
  obtain⟨S',h1,h2,h3⟩:=rP (show evs ops S _=some r from h);rw [force_eq] at h2;refine h3 _ ⟨S'.clo 6 (S'.pin++CU),?_⟩;rw [<-NT];exact hQ _ _ (h1.trans (AV.clean _ _)) h2
 |.BW x CU,S,K,r,Q,h,hQ=>by
  obtain⟨S',h1,h2,h3⟩:=PJ (show evr x S _=some r from h);rw [force_eq] at h2;refine h3 _ ⟨S'.clo 6 (S'.pin++CU),?_⟩;rw [<-NT];exact hQ _ _ (h1.trans (AV.clean _ _)) h2
 |.seq a b,S,K,r,Q,h,hQ=>by
  refine Bp (x:=a) (show DH a S _=some r from h) fun e S' hk h'=>?_
  cases e with
  |n=>exact Bp (x:=b) h' fun e S2 hk2 h2=>hQ _ _ (hk.trans hk2) h2
  |x i=>exact hQ _ _ hk h'
  |r=>exact hQ _ _ hk h'
 |.join c a b,S,K,r,Q,h,hQ=>by
  refine Bp (x:=a) (show DH a S _=some r from h) fun e S' hk h'=>?_
  cases e with
  |n=>
   dsimp only at h' ⊢;split at h'
   .rename_i x hx;have h':(c.st S S' x).force (fun S=>DH b S K)=some r:=by rw [<-rf (fun x=>(c.st S S' x).force fun S=>DH b S K) x];exact h'
    rw [force_eq] at h';obtain⟨h3,_,_⟩:=YZ (R:=R) hx (Cp.of hk);rw [<-h3];refine Bp (x:=b) h' fun e S2 hk2 h2=>hQ _ _ ?_ h2
    exact(AV.st hk).trans hk2
   .cases h'
  |x i=>exact hQ _ _ hk h'
  |r=>exact hQ _ _ hk h'
 |.cond c kt ke t e,S,K,r,Q,h,hQ=>by
  simp only [DH] at h;split at h
  .rename_i b hb;have hs:=Hk (R:=R) hb;simp only [YO.er,U.fg] at hs;rcases jU h with ⟨rfl,h'⟩|⟨rfl,h'⟩
   .rw [force_eq] at h';refine⟨true,hs,S.clo 6 (S.pin++kt),?_⟩;rw [if_pos rfl,<-NT];exact Bp (x:=t) h' fun e S2 hk2 h2=>hQ _ _ ((AV.clean _ _).trans hk2) h2
   .rw [force_eq] at h';refine⟨false,hs,S.clo 6 (S.pin++ke),?_⟩;rw [if_neg (by simp),<-NT];exact Bp (x:=e) h' fun e S2 hk2 h2=>hQ _ _ ((AV.clean _ _).trans hk2) h2
  .cases h
 |.block id b,S,K,r,Q,h,hQ=>by
  refine Bp (x:=b) (show DH b S _=some r from h) fun e S' hk h'=>?_
  cases e with
  |n=>exact hQ _ _ hk h'
  |x i=>
   dsimp only at h' ⊢;split at h'
   .rename_i hi;rw [if_pos hi];exact hQ _ _ hk h'
   .rename_i hi;rw [if_neg hi];exact hQ _ _ hk h'
  |r=>exact hQ _ _ hk h'
 |.loop c b,S,K,r,Q,h,hQ=>by
  simp only [DH] at h;split at h
  .rename_i x0 hx0;have key:∀(n:Nat) (x:TA c.as),Ap (fun L x=>(c.st S S x).force fun S1=>DH b S1 fun e S'=>match e with
    |.n=>if HH S.tm S'.tm=true/\HH S.bx S'.bx=true then (match c.fit S S' with|some y=>L y|none=>none) else none
    |.x i=>K (.x i) S'
    |.r=>K .r S') n x=some r->lf (wp Ev b.er) n ((c.st S S x).fg R) Q:=by
    intro n
    induction n with
    |zero=>intro x h;rw [lg] at h;cases h
    |succ n ih=>
     intro x h;rw [GX] at h;rw [force_eq] at h;refine Bp (x:=b) h fun e S' hk h'=>?_
     have hS:AV S (c.st S S x):=AV.st (AV.refl S);cases e with
     |n=>
      dsimp only at h' ⊢;split at h'
      .rename_i hsk;split at h'
       .rename_i y hy;rw [<-WY hy (Cp.round hk) hsk.1 hsk.2];exact ih y h'
       .cases h'
      .cases h'
     |x i=>exact hQ _ _ (hS.trans hk) h'
     |r=>exact hQ _ _ (hS.trans hk) h'
   refine⟨big,?_⟩;obtain⟨h3,_,_⟩:=YZ (R:=R) hx0 (Cp.of (AV.refl S));rw [<-h3];exact key big x0 h
  .cases h
 |.exit id,S,K,r,Q,h,hQ=>hQ _ _ (AV.refl _) h
 |.ret,S,K,r,Q,h,hQ=>hQ _ _ (AV.refl _) h
 |.scope b,S,K,r,Q,h,hQ=>Bp (x:=b) (show DH b S K=some r from h) hQ
 |.or a b,S,K,r,Q,h,hQ=>(zR (show orX (DH a S K) (DH b S K)=some r from h)).elim (fun h=>.inl (Bp (x:=a) h hQ)) fun h=>.inr (Bp (x:=b) h hQ)
 |.dead,S,K,r,Q,h,hQ=>by cases h
 |.xW c b,S00,K,r,Q,h,hQ=>by
  refine⟨big+1,?_⟩;refine Bp (x:=b) (show DH b S00 _=some r from h) fun e S hk0 h=>?_
  cases e with
  |n=>
   dsimp only at h ⊢;split at h
   .rename_i x0 hx0;have key:∀(n:Nat) (x:TA c.as),Ap (fun L x=>(c.st S S x).force fun S1=>DH b S1 fun e S'=>match e with
     |.n=>if HH S.tm S'.tm=true/\HH S.bx S'.bx=true then (match c.fit S S' with|some y=>L y|none=>none) else none
     |.x i=>K (.x i) S'
     |.r=>K .r S') n x=some r->lf (wp Ev b.er) n ((c.st S S x).fg R) Q:=by
     intro n
     induction n with
     |zero=>intro x h;rw [lg] at h;cases h
     |succ n ih=>
      intro x h;rw [GX] at h;rw [force_eq] at h;refine Bp (x:=b) h fun e S' hk h'=>?_
      have hS:AV S (c.st S S x):=AV.st (AV.refl S);cases e with
      |n=>
       dsimp only at h' ⊢;split at h'
       .rename_i hsk;split at h'
        .rename_i y hy;rw [<-WY hy (Cp.round hk) hsk.1 hsk.2];exact ih y h'
        .cases h'
       .cases h'
      |x i=>exact hQ _ _ (hk0.trans (hS.trans hk)) h'
      |r=>exact hQ _ _ (hk0.trans (hS.trans hk)) h'
    obtain⟨h3,_,_⟩:=YZ (R:=R) hx0 (Cp.of (AV.refl S));rw [<-h3];exact key big x0 h
   .cases h
  |x i=>exact hQ _ _ hk0 h
  |r=>exact hQ _ _ hk0 h
end
end Y
end Lv
namespace Lv
open Go (IntKind BinOp UnOp)
namespace Y
section
variable{R:List GF}{ρ:Type}
def z7:C->Bool
 |.st _=>true
 |.un _=>true
 |_=>false
def aI:List (Bool×C)->Bool
 | []=>true
 |(true,_)::r=>aI r
 |(false,c)::r=>(!z7 c&&decide (c≠.m))&&aI r
def nS:List PK->Bool
 | []=>true
 |.f _ l::r=>aI l&&nS r
 |_::r=>nS r
theorem Xk(i:Nat):∀(l:List (Bool×C)) (x:XY l),aI l=true->Lv.Hq i (J5 l x)=some ((Hq i l x).map Cap.fg)
 | [],x,h=>rfl
 |(true,c)::l,x,h=>by
  have ih:=Xk i l x.2 h;simp only [J5,Lv.Hq,Hq,List.map_cons,Cap.fg];rw [ih,CL];rfl
 |(false,c)::l,x,h=>by
  simp only [aI,Bool.and_eq_true,Bool.not_eq_true',decide_eq_true_eq] at h;have ih:=Xk i l x.2 h.2;cases c with
  |st n=>cases h.1.1
  |un n=>cases h.1.1
  |m=>exact(h.1.2 rfl).elim
  |_=>
   simp only [J5,enc,Lv.Hq,Hq,cells,List.map_cons,ih];rfl
theorem ug(c:C)(x:c.D):Cj (shC c) (enc c x).length=true:=by
 rw [HX];cases c <;> rfl
theorem G5:∀(ks:List PK) (i:Nat) (fs:List Nat) (a:A ks) (S:St),nS ks=true->fs.map (fun n=>(R[n]?).map GF.x)=(fX ks).map some ->
 Lv.initK i (ks.map PK.md) (aVs ks a) (S.fg R)=some ((initK i fs ks a S).fg R)
 | [],i,fs,a,S,_,_=>rfl
 |k::ks,i,fs,a,S,hp,hf=>by
  obtain⟨a1,a2⟩:=a;cases k with
  |v c=>
   have hE:enc c a1=(cells c a1).map U.fg:=CL c a1;have ih:=G5 ks (i+1) fs a2 (S.Em i (shC c) ((cells c a1).map (Br i))) hp hf;rw [Fq,IZ,<-hE] at ih;exact ih
  |p c=>
   have hE:enc c a1=(cells c a1).map U.fg:=CL c a1;have ih:=G5 ks (i+1) fs a2 (S.Em i .one [.vp (.old i) (cells c a1)]) hp hf;rw [Fq] at ih;simp only [List.map_cons,List.map_nil,AF.fg] at ih;rw [<-hE] at ih;exact ih
  |b c=>
   have hE:enc c a1=(cells c a1).map U.fg:=CL c a1;have ih:=G5 ks (i+1) fs a2 (let S1:=(S.Em i .one [.bp i 0]).HP i ((cells c a1).map (Br i));⟨S1.tm,S1.bx,i::S1.pin,S1.nv⟩) hp hf;have e:(let S1:=(S.Em i .one [.bp i 0]).HP i ((cells c a1).map (Br i));(⟨S1.tm,S1.bx,i::S1.pin,S1.nv⟩:St)).fg R={ S.fg R with tm:=Lv.put (S.fg R).tm i ⟨.one,[.bp i 0]⟩,bx:=Lv.put (S.fg R).bx i ((enc c a1).map (Lv.Br i)),pin:=i::(S.fg R).pin}:=by
    have h1:=Lu (R:=R) (S.Em i .one [.bp i 0]) i ((cells c a1).map (Br i));rw [Fq,IZ,<-hE] at h1;have h2:=congrArg Lv.St.tm h1;have h3:=congrArg Lv.St.bx h1;simp only [St.fg] at h2 h3 ⊢;rw [h2,h3];rfl
   rw [e] at ih;exact ih
  |o c=>
   have hE:enc c a1=(cells c a1).map U.fg:=CL c a1;have ih:=G5 ks (i+1) fs a2 (S.Em i (shC c) ((cells c a1).map Ec)) hp hf;rw [Fq,Pf,<-hE] at ih;exact ih
  |m c=>
   have hE:enc c a1=(cells c a1).map U.fg:=CL c a1;have ih:=G5 ks (i+1) fs a2 (let S1:=S.Em i (shC c) ((cells c a1).map Ec);⟨S1.tm,S1.bx,i::S1.pin,S1.nv⟩) hp hf;have e:(let S1:=S.Em i (shC c) ((cells c a1).map Ec);(⟨S1.tm,S1.bx,i::S1.pin,S1.nv⟩:St)).fg R={ S.fg R with tm:=Lv.put (S.fg R).tm i ⟨shC c,(enc c a1).map Lv.Ec⟩,pin:=i::(S.fg R).pin}:=by
    have h1:=Fq (R:=R) S i (shC c) ((cells c a1).map Ec);rw [Pf,<-hE] at h1;have h2:=congrArg Lv.St.tm h1;simp only [St.fg] at h2 ⊢;rw [h2];rfl
   rw [e] at ih;have hs:Cj (shC c) (enc c a1).length=true:=ug c a1;show (if Cj (shC c) (enc c a1).length=true then _ else none)=_;rw [if_pos hs];exact ih
  |f x l=>
   simp only [nS,Bool.and_eq_true] at hp;cases fs with
   |nil=>simp [fX] at hf
   |cons n fs=>
    simp only [fX,List.map_cons,List.cons.injEq] at hf;have hx:xr R n=x:=by
     unfold xr;cases hr:R[n]? with
     |none=>rw [hr] at hf;simp at hf
     |some g=>rw [hr] at hf;simpa using hf.1
    have ih:=G5 ks (i+1) fs a2 (S.Em i .one [.fn n (Hq i l a1)]) hp.2 hf.2;rw [Fq] at ih;have hc:Lv.Hq i (J5 l a1)=some ((Hq i l a1).map Cap.fg):=Xk i l a1 hp.1;show (match Lv.Hq i (J5 l a1) with|some ls=>Lv.initK (i+1) _ _ _|none=>none)=_;rw [hc];simp only [List.map_cons,List.map_nil,AF.fg,hx] at ih;exact ih
theorem Ga:∀{rs:List Mi} {S:St} {K:List (Option Nat)->List AF->Option ρ} {r:ρ},F6 rs S K=some r->∃ns ls,Lv.F6 rs (S.fg R)=some (ns,ls.map (AF.fg R))/\K ns ls=some r
 | [],S,K,r,h=>⟨[],[],rfl,h⟩
 |.tmp t::rs,S,K,r,h=>by
  simp only [F6] at h;split at h
  .rename_i e he;split at h
   .rename_i hs;obtain⟨ns,ls,h1,h2⟩:=Ga h;refine⟨_,_,?_,h2⟩;have:=FP (R:=R) he;simp only [YO.er] at this;simp only [Lv.F6,this,h1,En.fg,List.length_map,hs,if_true,List.map_append];rfl
   .cases h
  .cases h
 |.cell t n::rs,S,K,r,h=>by
  simp only [F6] at h;split at h
  .rename_i id o he;obtain⟨ls',h1,h⟩:=JL (R:=R) h;obtain⟨ns,ls,h2,h3⟩:=Ga h;refine⟨_,_,?_,h3⟩;have:=CC (R:=R) he;simp only [YO.er,AF.fg] at this h1;simp only [Lv.F6,this,h1,h2,List.map_append]
  .cases h
 |.bx _::rs,S,K,r,h=>by cases h
 |.vw _ _::rs,S,K,r,h=>by cases h
 |.un _ _::rs,S,K,r,h=>by cases h
theorem Wx:∀{ls:List AF},HA ls=true->Lv.HA (ls.map (AF.fg R))=true
 | [],_=>rfl
 |l::ls,h=>by
  simp only [HA,Bool.and_eq_true] at h;simp only [List.map_cons,Lv.HA,Bool.and_eq_true];refine⟨?_,Wx h.2⟩;have h1:=h.1;cases l with
  |t x=>simpa only [AF.fg,Tf] using h1
  |vw s c xs=>cases s <;> simp_all [AF.fg]
  |_=>cases h1
theorem xi{rk:RK}{rs:List Mi}{S:St}{K:St->List U->Option ρ}{r:ρ}(h:Qi rk rs S K=some r):∃S' us,Lv.Qi rs (S.fg R)=some (S'.fg R,rk.sh,us.map U.fg)/\K S' us=some r:=by
 unfold Qi at h;split at h
 .rename_i k c t;split at h
  .rename_i id he;have h1:=CC (R:=R) he;simp only [YO.er,AF.fg] at h1;split at h
   .rename_i ls hl;split at h
    .cases h
    .rename_i hp;split at h
     .rename_i hk;split at h
      .rename_i us hu;subst hk;refine⟨S,us,?_,h⟩;have hp':id∉(S.fg R).pin:=fun hh=>hp (mem_iff.2 hh)
       simp only [Lv.Qi,h1,IP,hl,Option.map_some,G6,H8 hu];rw [if_neg hp'];rfl
      .cases h
     .cases h
   .cases h
  .cases h
 .rename_i k c t k';split at h
  .rename_i hk;subst hk;split at h
   .rename_i k'' c' xs he;have h1:=CC (R:=R) he;simp only [YO.er,AF.fg] at h1;split at h
    .rename_i hk;subst hk;exact⟨S,_,by simp only [Lv.Qi,h1,if_true];rfl,h⟩
    .cases h
   .rename_i q sub he;have h1:=CC (R:=R) he;simp only [YO.er,AF.fg] at h1;split at h
    .rename_i x hx;refine⟨_,_,?_,h⟩;simp only [Lv.Qi,h1,Ey,hx,Option.map_some,AF.fg,Po,List.map_cons,List.map_nil,Oe];rfl
    .cases h
   .cases h
  .cases h
 .rename_i n c cs t n' r' rs;split at h
  .rename_i hn';subst hn';split at h
   .rename_i id o he;have he':=CC (R:=R) he;obtain⟨ls',h0,h⟩:=JL (R:=R) h;simp only [YO.er,AF.fg] at he' h0;split at h
    .rename_i hp;obtain⟨ns,ls,h1,h⟩:=Ga (R:=R) h;split at h
     .rename_i hn;split at h
      .rename_i S' us hu;obtain⟨h2,_⟩:=Fp (R:=R) hu;refine⟨S',_,?_,h⟩;simp only [Lv.Qi,he',h0];rw [if_pos (Wx hp),h1];dsimp only;rw [h2,hn];simp only [List.map_append,List.map_replicate];rfl
      .cases h
     .cases h
    .cases h
   .cases h
  .cases h
 .rename_i cs;obtain⟨ns,ls,h1,h⟩:=Ga (R:=R) h;split at h
  .rename_i hn;split at h
   .rename_i S' us hu;obtain⟨h2,_⟩:=Fp (R:=R) hu;refine⟨S',us,?_,h⟩;have:Lv.Qi rs (S.fg R)=match Lv.F6 rs (S.fg R) with
     |some (ns,ls)=>(match Lv.BX (S.fg R) ls with|some (S',cs)=>some (S',eB ns,cs)|none=>none)
     |none=>none:=by
     rcases rs with _|⟨a,_|⟨b,rs⟩⟩
     .rfl
     .cases a <;> first|rfl|(simp [Lv.F6] at h1)
     .cases a <;> first|rfl|(simp [Lv.F6] at h1)
    rw [this,h1];dsimp only;rw [h2,hn];rfl
   .cases h
  .cases h
 .cases h
theorem zS{l:AF}{u:U}(h:owT l=some u):Lv.owT (AF.fg R l)=some u.fg:=by
 cases l with
 |ow x=>cases h;rfl
 |t x=>
  simp only [owT] at h;simp only [AF.fg,Lv.owT,Tf];split at h
  .cases h
  .rename_i hc;cases h;rw [if_neg hc]
 |_=>cases h
theorem l7:∀{ls:List AF} {us:List U},Qh ls=some us->Lv.Qh (ls.map (AF.fg R))=some (us.map U.fg)/\us.length=ls.length
 | [],us,h=>by cases h;exact⟨rfl,rfl⟩
 |l::ls,us,h=>by
  simp only [Qh] at h;split at h
  .rename_i x xs h1 h2;cases h;obtain⟨h3,h4⟩:=l7 h2;simp only [List.map_cons,Lv.Qh,zS h1,h3,List.length_cons,h4];exact⟨trivial,trivial⟩
  .cases h
theorem RS{k:Nat}:∀{ls:List AF} {us:List U},CR k ls=some us->us.length=ls.length
 | [],us,h=>by cases h;rfl
 |l::ls,us,h=>by
  simp only [CR] at h;split at h
  .rename_i x xs h1 h2;cases h;simp only [List.length_cons,RS h2]
  .cases h
def chunks:List C->List U->List (List U)
 | [],_=>[]
 |c::cs,us=>us.take c.size::chunks cs (us.drop c.size)
theorem RY:∀(cs:List C) (us:List U),(chunks cs us).length=cs.length
 | [],_=>rfl
 |c::cs,us=>by simp only [chunks,List.length_cons,RY cs]
theorem P9:∀(cs:List C) (us:List U),us.length=MZ cs->(chunks cs us).flatten=us
 | [],us,h=>by cases us with|nil=>rfl|cons u us=>cases h
 |c::cs,us,h=>by
  simp only [MZ] at h;simp only [chunks,List.flatten_cons];rw [P9 cs _ (by rw [List.length_drop];omega),List.take_append_drop]
theorem RX:∀(cs ds:List C) (us os:List U),us.length=MZ cs->chunks (cs++ds) (us++os)=chunks cs us++chunks ds os
 | [],ds,us,os,h=>by cases us with|nil=>rfl|cons u us=>cases h
 |c::cs,ds,us,os,h=>by
  simp only [MZ] at h;simp only [List.cons_append,chunks];rw [List.take_append_of_le_length (by omega),List.drop_append_of_le_length (by omega),RX cs ds _ os (by rw [List.length_drop];omega)]
theorem UW:∀{cs:List C} {us:List U} {x:Tu cs},ofT cs us=some x->KI cs x=(chunks cs us).map (List.map U.fg)
 | [],us,x,h=>rfl
 | [c],us,x,h=>by
  have h':ofC c us=some x:=h;show [enc c x]=_;rw [D6 h'];simp only [chunks,List.map_cons,List.map_nil];rw [List.take_of_length_le (by rw [xR h'];exact Nat.le_refl _)]
 |c::c'::cs,us,x,h=>by
  simp only [ofT] at h;split at h
  .rename_i a b h1 h2;cases h;show enc c a::KI (c'::cs) b=_;rw [D6 h1,UW h2];rfl
  .cases h
theorem Fh{S:St}:∀{ks:List PK} {i:Nat} {os:List U},CJ i ks S=some os->Lv.CJ i (ks.map PK.md) (S.fg R)=some ((chunks (GY ks) os).map (List.map U.fg))/\os.length=MZ (GY ks)
 | [],i,os,h=>by cases h;exact⟨rfl,rfl⟩
 |.b c::ks,i,os,h=>by
  simp only [CJ] at h;split at h
  .rename_i ls os' h1 h2;obtain⟨h3,h4⟩:=Fh (ks:=ks) h2;split at h
   .rename_i hc;split at h
    .rename_i us hu;cases h;have hl:us.length=c.size:=by rw [RS hu,hc.2]
     have hp:i∈(S.fg R).pin:=mem_iff.1 hc.1;refine⟨?_,by simp only [List.length_append,GY,MZ,hl,h4]⟩;simp only [List.map_cons,PK.md,Lv.CJ,IP,h1,Option.map_some,h3,GY,chunks];rw [if_pos hp,H8 hu,List.take_left' hl,List.drop_left' hl];rfl
    .cases h
   .cases h
  .cases h
 |.m c::ks,i,os,h=>by
  simp only [CJ] at h;split at h
  .rename_i e os' h1 h2;obtain⟨h3,h4⟩:=Fh (ks:=ks) h2;split at h
   .rename_i hc;split at h
    .rename_i us hu;cases h;obtain⟨h5,h6⟩:=l7 (R:=R) hu;have hl:us.length=c.size:=by rw [h6,hc.2.2]
     have hp:i∈(S.fg R).pin:=mem_iff.1 hc.1;refine⟨?_,by simp only [List.length_append,GY,MZ,hl,h4]⟩;simp only [List.map_cons,PK.md,Lv.CJ,N5,h1,Option.map_some,h3,GY,chunks,Ent.fg,List.length_map];rw [if_pos ⟨hp,hc.2.1⟩,h5,List.take_left' hl,List.drop_left' hl];rfl
    .cases h
   .cases h
  .cases h
 |.v c::ks,i,os,h=>Fh (ks:=ks) h
 |.p c::ks,i,os,h=>Fh (ks:=ks) h
 |.o c::ks,i,os,h=>Fh (ks:=ks) h
 |.f x l::ks,i,os,h=>Fh (ks:=ks) h
theorem bu:∀(cs:List C) (x:Tu cs),(KI cs x).map List.length=cs.map C.size
 | [],x=>rfl
 | [c],x=>congrArg (fun n=>[n]) (HX c x)
 |c::c'::cs,x=>by
  obtain⟨a,b⟩:=x;show (enc c a).length::(KI (c'::cs) b).map List.length=_;rw [bu (c'::cs) b,HX];rfl
theorem Fg:∀(ks:List PK) (a:A ks) (os:List (List T)),os.map List.length=(GY ks).map C.size->Lv.Cv (ks.map PK.md) (aVs ks a) os=true
 | [],a,[],h=>rfl
 | [],a,o::os,h=>by cases h
 |.b c::ks,a,[],h=>by cases h
 |.b c::ks,a,o::os,h=>by
  obtain⟨a1,a2⟩:=a;simp only [GY,List.map_cons,List.cons.injEq] at h;have hl:(enc c a1).length=c.size:=HX c a1;show (o.length==(enc c a1).length&&Lv.Cv (ks.map PK.md) (aVs ks a2) os)=true;rw [hl,h.1,Fg ks a2 os h.2];simp
 |.m c::ks,a,[],h=>by cases h
 |.m c::ks,a,o::os,h=>by
  simp only [GY,List.map_cons,List.cons.injEq] at h;exact Fg ks a.2 os h.2
 |.v c::ks,a,os,h=>Fg ks a.2 os h
 |.p c::ks,a,os,h=>Fg ks a.2 os h
 |.o c::ks,a,os,h=>Fg ks a.2 os h
 |.f x l::ks,a,os,h=>Fg ks a.2 os h
end
def YF.er(f:YF):BJ:=.mk (f.ps.map PK.md) f.rs f.body.er
theorem YY{f:YF}{S:St}{r:Tu (f.rk.cs++GY f.ps)}(h:fin f.ps f.rk f.rs S=some r) :
 Lv.fin (f.ps.map PK.md) f.rs (S.fg f.R) f.rk.sh ((KI _ r).take f.rk.cs.length).flatten ((KI _ r).drop f.rk.cs.length):=by
 unfold fin at h;obtain⟨S',us,h1,h⟩:=xi (R:=f.R) h;split at h
 .rename_i os ho;split at h
  .rename_i hl;obtain⟨h2,h3⟩:=Fh (R:=f.R) ho;have h4:=UW h;rw [RX _ _ _ _ hl,List.map_append] at h4;have hlen:((chunks f.rk.cs us).map (List.map U.fg)).length=f.rk.cs.length:=by rw [List.length_map,RY]
   rw [h4,List.take_left' hlen,List.drop_left' hlen];refine⟨S'.fg f.R,?_,h2⟩;rw [h1,<-List.map_flatten,P9 _ _ hl]
  .cases h
 .cases h
theorem YF.sound{f:YF}(hp:nS f.ps=true)(hf:f.fs.map (fun n=>(f.R[n]?).map GF.x)=(fX f.ps).map some){a:A f.ps}{r:Tu (f.rk.cs++GY f.ps)}(h:f.run a=some r) :
 Ev f.er (aVs f.ps a) f.rk.sh ((KI _ r).take f.rk.cs.length).flatten ((KI _ r).drop f.rk.cs.length):=by
 unfold YF.run at h;rw [force_eq] at h;refine .intro ⟨_,G5 (R:=f.R) f.ps 0 f.fs a ⟨[],[],[],0⟩ hp hf,?_,?_⟩
 .refine Bp h fun e S' _ h'=>?_
  cases e with
  |n=>exact YY h'
  |x i=>cases h'
  |r=>exact YY h'
 .refine Fg _ _ _ ?_;have:=bu (f.rk.cs++GY f.ps) r;rw [List.map_drop,this,List.map_append,List.drop_left' (by rw [List.length_map])]
def YF.gf(f:YF)(hp:nS f.ps=true)(hf:f.fs.map (fun n=>(f.R[n]?).map GF.x)=(fX f.ps).map some)(d:A f.ps->Option (Tu (f.rk.cs++GY f.ps)))(hd:∀a,f.run a=d a):GF:=
 ⟨f.er,f.ps,f.rk,d,rfl,fun a r h=>YF.sound hp hf ((hd a).trans h)⟩
end Y
end Lv
namespace Lv
open Y
open Go
structure mf(ps:List PK)(rk:RK) where
 x:BJ
 d:A ps->Option (Tu (rk.cs++GY ps))
 ms:CG x=ps.map PK.md
 ok:∀a r,d a=some r->Ev x (aVs ps a) rk.sh ((KI _ r).take rk.cs.length).flatten ((KI _ r).drop rk.cs.length)
def mf.gf{ps:List PK}{rk:RK}(r:mf ps rk):GF:=⟨r.x,ps,rk,r.d,r.ms,r.ok⟩
def mf.of(g:GF):mf g.ps g.rk:=⟨g.x,g.d,g.ms,g.ok⟩
def mf.nil(ps:List PK)(rk:RK):mf ps rk:=⟨.Pp 1 (ps.map PK.md),fun _=>none,rfl,fun _ _ h=>by cases h⟩
end Lv
namespace Lv
open Go (IntKind BinOp UnOp)
noncomputable def Jk{γ:Type}(x y:A5)(X:Option γ):Option γ:=eqv x.Code y.Code (eqv x.Ids y.Ids X)
theorem Zn{γ:Type}(x:A5)(X:Option γ):Jk x x X=X:=by unfold Jk;simp only [Bl]
noncomputable def D8{γ:Type}(x y:AI)(X:Option γ):Option γ:=eqv x.b_ y.b_ (eqv x.i_ y.i_ (eqv x.h_ y.h_ X))
theorem FI{γ:Type}(x:AI)(X:Option γ):D8 x x X=X:=by unfold D8;simp only [Bl]
noncomputable def Zk{γ:Type}(x y:AT)(X:Option γ):Option γ:=eqv x.Level y.Level (eqv x.AQ y.AQ (eqv x.Id y.Id (eqv x.AY y.AY X)))
theorem Zl{γ:Type}(x:AT)(X:Option γ):Zk x x X=X:=by unfold Zk;simp only [Bl]
noncomputable def A1{γ:Type}(x y:AN)(X:Option γ):Option γ:=eqv x.AM y.AM (eqv x.Bq y.Bq (eqv x.Room y.Room (eqv x.AY y.AY (eqv x.CI y.CI (eqv x.BI y.BI (eqv x.Rest y.Rest (eqv x.BF y.BF (eqv x.Cc y.Cc X))))))))
theorem Zo{γ:Type}(x:AN)(X:Option γ):A1 x x X=X:=by unfold A1;simp only [Bl]
noncomputable def Jj{γ:Type}(x y:AH)(X:Option γ):Option γ:=eqv x.Id y.Id (eqv x.AK y.AK (eqv x.Ay y.Ay (eqv x.AY y.AY (eqv x.Bb y.Bb (eqv x.Since y.Since (eqv x.AQ y.AQ (eqv x.State y.State (eqv x.Bh y.Bh (eqv x.Ba y.Ba X)))))))))
theorem C5{γ:Type}(x:AH)(X:Option γ):Jj x x X=X:=by unfold Jj;simp only [Bl]
noncomputable def Ji{γ:Type}(x y:AA)(X:Option γ):Option γ:=eqv x.AG.AM y.AG.AM (eqv x.AG.Bq y.AG.Bq (eqv x.AG.Room y.AG.Room (eqv x.AG.AY y.AG.AY (eqv x.AG.CI y.AG.CI (eqv x.AG.BI y.AG.BI (eqv x.AG.Rest y.AG.Rest (eqv x.AG.BF y.AG.BF (eqv x.AG.Cc y.AG.Cc (eqv x.Now y.Now (eqv x.AQ y.AQ (eqv x.AB y.AB (eqv x.AE y.AE (eqv x.AW y.AW (eqv x.AS y.AS X))))))))))))))
theorem Zm{γ:Type}(x:AA)(X:Option γ):Ji x x X=X:=by unfold Ji;simp only [Bl]
def Ae:List U:=[.nil,.int .i64 0,.int .i64 0,.int .i64 0,.int .i64 0,.int .i64 0,.int .i64 0,.int .i64 0,.int .i64 0,.int .i64 0,.int .i64 0,.nil,.nil,.nil,.nil]
def BS:List U:=[.int .i64 0,.int .i64 0,.int .i64 0,.int .i64 0,.int .i64 0,.int .i64 0,.int .i64 0,.int .i64 0,.int .i64 0,.int .i64 0]
def On:List U:=[.nil,.int .i64 0,.int .i64 0,.int .i64 0,.int .i64 0,.int .i64 0,.int .i64 0,.int .i64 0,.int .i64 0]
def B3:List U:=[.int .i64 0,.int .i64 0,.int .i64 0,.int .i64 0,.int .i64 0,.int .i64 0]
def C6:List U:=[.int .i64 0,.int .i64 0,.int .i64 0,.int .i64 0,.int .i64 0,.nil,.nil]
def By:List U:=[.int .i64 0,.int .i64 0,.int .i64 0,.int .i64 0,.int .i64 0]
def Eh:List U:=[.int .i64 0,.int .i64 0,.int .i64 0,.int .i64 0]
noncomputable def ev2{α0 α1 γ:Type}(a0:α0)(a1:α1)(X:Option γ):Option γ:=eqv a0 a0 (eqv a1 a1 X)
theorem KK{α0 α1 γ:Type}(a0:α0)(a1:α1)(X:Option γ):ev2 a0 a1 X=X:=by unfold ev2;simp only [Bl]
noncomputable def ev3{α0 α1 α2 γ:Type}(a0:α0)(a1:α1)(a2:α2)(X:Option γ):Option γ:=eqv a0 a0 (eqv a1 a1 (eqv a2 a2 X))
theorem KL{α0 α1 α2 γ:Type}(a0:α0)(a1:α1)(a2:α2)(X:Option γ):ev3 a0 a1 a2 X=X:=by unfold ev3;simp only [Bl]
noncomputable def ev4{α0 α1 α2 α3 γ:Type}(a0:α0)(a1:α1)(a2:α2)(a3:α3)(X:Option γ):Option γ:=eqv a0 a0 (eqv a1 a1 (eqv a2 a2 (eqv a3 a3 X)))
theorem KM{α0 α1 α2 α3 γ:Type}(a0:α0)(a1:α1)(a2:α2)(a3:α3)(X:Option γ):ev4 a0 a1 a2 a3 X=X:=by unfold ev4;simp only [Bl]
noncomputable def ev5{α0 α1 α2 α3 α4 γ:Type}(a0:α0)(a1:α1)(a2:α2)(a3:α3)(a4:α4)(X:Option γ):Option γ:=eqv a0 a0 (eqv a1 a1 (eqv a2 a2 (eqv a3 a3 (eqv a4 a4 X))))
theorem KN{α0 α1 α2 α3 α4 γ:Type}(a0:α0)(a1:α1)(a2:α2)(a3:α3)(a4:α4)(X:Option γ):ev5 a0 a1 a2 a3 a4 X=X:=by unfold ev5;simp only [Bl]
noncomputable def ev6{α0 α1 α2 α3 α4 α5 γ:Type}(a0:α0)(a1:α1)(a2:α2)(a3:α3)(a4:α4)(a5:α5)(X:Option γ):Option γ:=eqv a0 a0 (eqv a1 a1 (eqv a2 a2 (eqv a3 a3 (eqv a4 a4 (eqv a5 a5 X)))))
theorem I7{α0 α1 α2 α3 α4 α5 γ:Type}(a0:α0)(a1:α1)(a2:α2)(a3:α3)(a4:α4)(a5:α5)(X:Option γ):ev6 a0 a1 a2 a3 a4 a5 X=X:=by unfold ev6;simp only [Bl]
noncomputable def ev7{α0 α1 α2 α3 α4 α5 α6 γ:Type}(a0:α0)(a1:α1)(a2:α2)(a3:α3)(a4:α4)(a5:α5)(a6:α6)(X:Option γ):Option γ:=eqv a0 a0 (eqv a1 a1 (eqv a2 a2 (eqv a3 a3 (eqv a4 a4 (eqv a5 a5 (eqv a6 a6 X))))))
theorem KO{α0 α1 α2 α3 α4 α5 α6 γ:Type}(a0:α0)(a1:α1)(a2:α2)(a3:α3)(a4:α4)(a5:α5)(a6:α6)(X:Option γ):ev7 a0 a1 a2 a3 a4 a5 a6 X=X:=by unfold ev7;simp only [Bl]
noncomputable def ev8{α0 α1 α2 α3 α4 α5 α6 α7 γ:Type}(a0:α0)(a1:α1)(a2:α2)(a3:α3)(a4:α4)(a5:α5)(a6:α6)(a7:α7)(X:Option γ):Option γ:=eqv a0 a0 (eqv a1 a1 (eqv a2 a2 (eqv a3 a3 (eqv a4 a4 (eqv a5 a5 (eqv a6 a6 (eqv a7 a7 X)))))))
theorem KP{α0 α1 α2 α3 α4 α5 α6 α7 γ:Type}(a0:α0)(a1:α1)(a2:α2)(a3:α3)(a4:α4)(a5:α5)(a6:α6)(a7:α7)(X:Option γ):ev8 a0 a1 a2 a3 a4 a5 a6 a7 X=X:=by unfold ev8;simp only [Bl]
namespace Y
section
variable{R:List GF}
def qn(l:List (YOp R)):List (Option (Nat×Bool)×YOp R):=l.map fun o=>(none,o)
def qf(g:Nat)(l:List (YOp R)):List (Option (Nat×Bool)×YOp R):=l.map fun o=>(some (g,false),o)
def qt(g:Nat)(l:List (YOp R)):List (Option (Nat×Bool)×YOp R):=l.map fun o=>(some (g,true),o)
def qr(l:List (List (Option (Nat×Bool)×YOp R)))(CU:List Nat):DS R:=.region l.flatten CU
def q1(l:List (YOp R))(CU:List Nat):DS R:=.region (qn l) CU
def qdl(r:Ad R):Nat->List (Option (Nat×Bool)×YOp R)->Ad R
 |_,[]=>r
 |i,o::l=>.op i o.1 [] o.2 (qdl r (i+1) l)
def qd(i:Nat)(l:List (List (Option (Nat×Bool)×YOp R)))(r:Ad R):Ad R:=qdl r i l.flatten
def qm(d s:Nat):YOp R:=.mv d (.tmp s)
def qa(d s:Nat):YOp R:=.as d (.tmp s)
def qo(d o s:Nat):YOp R:=.fa d o (.tmp s)
def ql(d s:Nat):YOp R:=.ld d none (.tmp s)
def qL(d n s:Nat):YOp R:=.ld d (some n) (.tmp s)
def qb(d:Nat)(o:BinOp)(x y:Nat):YOp R:=.bin d .num o (.tmp x) (.tmp y)
def qi(d:Nat)(o:BinOp)(x:Nat)(n:Int):YOp R:=.bin d .num o (.tmp x) (.k (.int .i64 n))
def qx(d s:Nat):YOp R:=.un d .not (.tmp s)
def qp(d c x:Nat):YOp R:=.pick d (.tmp c) (.k (.bool true)) (.tmp x)
def qq(d c x:Nat):YOp R:=.pick d (.tmp c) (.tmp x) (.k (.bool false))
def qc(d:Nat)(g:GF)(hf:([]:List Nat).map (fun n=>(R[n]?).map GF.x)=(fX g.ps).map some)(l:List Nat):YOp R:=.call d g [] hf (l.map .tmp)
def qz(d s:Nat):YOp R:=.len d (.tmp s)
def qe(d:Nat)(c:C)(x i:Nat):YOp R:=.ia d c (.tmp x) (.tmp i)
def qk(d:Nat)(n:Int):YOp R:=.mv d (.k (.int .i64 n))
def qK(d:Nat)(n:Int):YOp R:=.as d (.k (.int .i64 n))
def qB(d:Nat)(b:Bool):YOp R:=.as d (.k (.bool b))
def qw(n x v:Nat):YOp R:=.st n (.tmp x) (.tmp v)
def qu(d s:Nat):YOp R:=.box d (.tmp s)
def qj(n:Int):YO:=.k (.int .i64 n)
instance (n:Nat):OfNat YO n:=⟨.tmp n⟩
def kpF:Nat->Nat->Nat->List Nat
 |0,_,_=>[]
 |f+1,i,n=>match Nat.beq n 0 with|true=>[]|false=>match Nat.testBit n 0 with|true=>i::kpF f (i+1) (n / 2)|false=>kpF f (i+1) (n / 2)
def wU:Nat->List (Nat->Nat->YOp R)->List (YOp R)
 |_,[]=>[]
 |0,f::l=>f 0 0::wU 1 l
 |k+1,f::l=>f (k+1) k::wU (k+2) l
def wn(d:Nat)(l:List (Nat->Nat->YOp R)):List (Option (Nat×Bool)×YOp R):=qn (wU d l)
def wf(g d:Nat)(l:List (Nat->Nat->YOp R)):List (Option (Nat×Bool)×YOp R):=qf g (wU d l)
def wt(g d:Nat)(l:List (Nat->Nat->YOp R)):List (Option (Nat×Bool)×YOp R):=qt g (wU d l)
def w1(d:Nat)(l:List (Nat->Nat->YOp R))(CU:List Nat):DS R:=q1 (wU d l) CU
def sw(d:Nat)(l:List (Nat->Nat->YOp R))(CU:List Nat)(b:DS R):DS R:=.seq (q1 (wU d l) CU) b
def sq(l:List (YOp R))(CU:List Nat)(b:DS R):DS R:=.seq (q1 l CU) b
def sr(l:List (List (Option (Nat×Bool)×YOp R)))(CU:List Nat)(b:DS R):DS R:=.seq (qr l CU) b
def wm(s d _p:Nat):YOp R:=.mv d (.tmp s)
def wM(d p:Nat):YOp R:=.mv d (.tmp p)
def wo(o s d _p:Nat):YOp R:=.fa d o (.tmp s)
def wO(o d p:Nat):YOp R:=.fa d o (.tmp p)
def wl(s d _p:Nat):YOp R:=.ld d none (.tmp s)
def wL(d p:Nat):YOp R:=.ld d none (.tmp p)
def wk(n s d _p:Nat):YOp R:=.ld d (some n) (.tmp s)
def wK(n d p:Nat):YOp R:=.ld d (some n) (.tmp p)
def wz(s d _p:Nat):YOp R:=.len d (.tmp s)
def wZ(d p:Nat):YOp R:=.len d (.tmp p)
def wx(s d _p:Nat):YOp R:=.un d .not (.tmp s)
def wX(d p:Nat):YOp R:=.un d .not (.tmp p)
def wb(o:BinOp)(x y d _p:Nat):YOp R:=.bin d .num o (.tmp x) (.tmp y)
def wB(o:BinOp)(x d p:Nat):YOp R:=.bin d .num o (.tmp x) (.tmp p)
def wi(o:BinOp)(x:Nat)(n:Int)(d _p:Nat):YOp R:=.bin d .num o (.tmp x) (.k (.int .i64 n))
def wI(o:BinOp)(n:Int)(d p:Nat):YOp R:=.bin d .num o (.tmp p) (.k (.int .i64 n))
def wr(c x d _p:Nat):YOp R:=.pick d (.tmp c) (.k (.bool true)) (.tmp x)
def wR(c d p:Nat):YOp R:=.pick d (.tmp c) (.k (.bool true)) (.tmp p)
def wq(c x d _p:Nat):YOp R:=.pick d (.tmp c) (.tmp x) (.k (.bool false))
def wQ(c d p:Nat):YOp R:=.pick d (.tmp c) (.tmp p) (.k (.bool false))
def we(c:C)(x i d _p:Nat):YOp R:=.ia d c (.tmp x) (.tmp i)
def wE(c:C)(x d p:Nat):YOp R:=.ia d c (.tmp x) (.tmp p)
def wc(g:GF)(hf:([]:List Nat).map (fun n=>(R[n]?).map GF.x)=(fX g.ps).map some)(l:List YO)(d _p:Nat):YOp R:=.call d g [] hf l
def wY(g:GF)(hf:([]:List Nat).map (fun n=>(R[n]?).map GF.x)=(fX g.ps).map some)(d p:Nat):YOp R:=.call d g [] hf [.tmp p]
def wj(n:Int)(d _p:Nat):YOp R:=.mv d (.k (.int .i64 n))
def wh(f:Nat->YOp R)(d _p:Nat):YOp R:=f d
def Kp(n:Nat):List Nat:=kpF 300 0 n
def cv(n:Nat)(c:C):Bool×Nat×Sh×List AL:=(false,n,.one,[.val c none])
def ca(n:Nat)(c:C):Bool×Nat×Sh×List AL:=(false,n,.agg,[.val c none])
def cx(n:Nat)(c:C):Bool×Nat×Sh×List AL:=(true,n,.one,[.val c none])
def cn(c:Nat)(ke:List Nat)(t:DS R):DS R:=.cond c [] ke t .skip
def ce(c:Nat)(kt ke:List Nat)(id:Nat):DS R:=.cond c kt ke .skip (.exit id)
def bl(id:Nat)(c:Cut)(b:DS R):DS R:=.block id (.loop c b)
end
end Y
end Lv
