/- The typed machine is right about the light one. -/
import Derived.Test.YtcmjfplpdjflnaaGreatTA
import Derived.KernelRfl
noncomputable section
set_option linter.unusedVariables false
set_option linter.unusedSimpArgs false
set_option linter.unusedSectionVars false
open Bool renaming and_eq_true->AE,false_and->Bj,false_eq_true->BM,not_eq_true'->BF
open List.cons renaming injEq->Cb
open List renaming drop_left'->Cj,ext_getElem?->FA,getD_eq_getElem?_getD->BP,getElem?_eq_some_iff->AO,getElem?_map->A4,getElem?_set->Dh,length_append->AP,length_cons->AJ,length_drop->BX,length_map->Aj,length_nil->AS,map_append->Db,map_cons->AI,map_drop->CU,map_flatten->JR,map_map->Di,map_nil->BV,map_replicate->GN,map_set->G5,map_take->Cl,mem_cons->Ar,mem_cons_of_mem->Au,mem_cons_self->Bc,take_append_drop->Hh,take_left'->Cs
open Nat renaming beq_refl->Lo,le_refl->Af,lt_succ_of_lt->Iw,not_lt->NQ,sub_self->Dk
open Option renaming getD_some->JW,map_some->Ap
open Option.some renaming injEq->AD
namespace Lv
open Go (IntKind BinOp UnOp)
theorem AGn{γ:Type}{b:Bool}{x y:Option γ}{r:γ}(h:br b x y=some r):(b=true/\x=some r)\/(b=false/\y=some r):=by
 grind[AYw]
theorem Og{γ:Type}{p:Prop} [Decidable p] {x:Option γ} {r:γ} (h:gd p x=some r):p/\x=some r:=by
 grind[APM]
theorem UY{α γ:Type}{o:Option α}{f:α->Option γ}{r:γ}(h:bd o f=some r):∃a,o=some a/\f a=some r:=ob (ADH o f▸h)
theorem Wp(X:List (List T))(i j:Nat)(o:T)(k:Nat):(IP X i j o)[k]?=if k=i then (X[i]?).map (fun row=>row.set j o) else X[k]?:=by
 grind[IP,List.getElem?_eq_getElem,List.getElem?_eq_none]
theorem ANI(X:List (List T))(i j y q:Nat)(o t:T)(h:q≠j):IP (IP X y q t) i j o=IP (IP X i j o) y q t:=by
 apply FA
 grind[Wp,List.set_comm]
theorem ANJ(X:List (List T))(i j:Nat)(o t:T):IP (IP X i j t) i j o=IP X i j o:=by
 apply FA;intro k;simp only[Wp];by_cases q:k=i
 .subst q;simp only[if_true];cases X[k]? with|none=>rfl|some row=>simp
 .simp only[AT q]
namespace Y
section
variable{R:List GF}{ρ:Type}
theorem oS(i j:Nat)(o:T):∀(q:List (Nat×Nat)) (X:List (List T)),(∀p∈q,p.2≠j)->IP (L0 X q) i j o=L0 (IP X i j o) q
 | [],X,_=>rfl|(a,b)::q,X,h=>by
  simp only[L0];rw[oS i j o q _ (fun p y=>h p (by simp[y])),ANI X i j a b o .top (h (a,b) (by simp))]
theorem AVI{c:C}{xs:List c.D}{i j:Nat}{o:U}{x y:c.D}(q:xs[i]?=some x)(h:ofC c ((cells c x).set j o)=some y):IP (xs.map (enc c)) i j o.fg=(xs.set i y).map (enc c):=by
 have B:i<xs.length:=(AO.1 q).1;apply FA;intro k;simp only[Wp,A4,Dh];by_cases E:k=i
 .subst E;simp only[if_true,q,Ap,B,AD];rw[H0 h,Ez,G5]
 grind
theorem Mx:∀{ls:List AR} {us:List U} {S:St} {K:St->Option ρ} {r:ρ},Gw S ls us K=some r ->
 ∃S',Lv.Gw (S.fg R) (ls.map (AR.fg R)) (us.map U.fg)=some (S'.fg R)/\BS S S'/\K S'=some r
 | [],[],S,K,r,h=>⟨S,rfl,BS.refl _,h⟩| [],u::us,S,K,r,h=>by simp[Gw]at h|l::ls,[],S,K,r,h=>by cases l<;>simp[Gw]at h
 |l::ls,o::us,S,K,r,h=>by
  cases l with
  |t x=>
   have h:Gw S ls us K=some r:=h;obtain⟨S',y,B,E⟩:=Mx h;exact⟨S',y,B,E⟩
  |al q sub=>
   cases sub with
   |some p=>simp[Gw]at h|none=>
    have h:Gw (S.Bh q (.ow o)) ls us K=some r:=h;obtain⟨S',y,B,E⟩:=Mx h;refine⟨S',?_,(BS.Bh _ _ _).trans B,E⟩;rw[F9]at y;exact y
  |vw s c xs=>
   cases s with
   |old k=>simp[Gw]at h|own q p=>
    cases p with
    |none=>simp[Gw]at h|some p=>
     obtain⟨i,j⟩:=p;simp only[Gw]at h;split at h
     .rename_i c' rows i' Z H I;split at h
      .rename_i Q;obtain⟨rfl,G⟩:=Q;obtain⟨rfl,h⟩:=Og h;obtain⟨x,Y,h⟩:=UY h;split at h
       .rename_i x' L;obtain⟨S',y,B,E⟩:=Mx h;refine⟨S',?_,((BS.Bh _ _ _).trans (BS.kill _ _)).trans B,E⟩;have J:∀p∈H,p.2≠Z:=by
         intro p X;have:=List.all_eq_true.1 G p X;intro O;simp[O]at this
        simp only[AI,AR.fg,Lv.Gw,Iy,I,Ap];rw[<-Jz (P0 q),F9]at y;rw[<-y];congr 3;simp only[L0];rw[oS _ _ _ H _ J,ANJ,AVI Y L];cases H with
        |nil=>simp only[AR.fg,U.fg,L0]|cons p H=>simp only[AR.fg]
       .cases h
      .cases h
     .cases h
  |_=>simp[Gw]at h
theorem AW4(S0 S:Lv.St)(ms:List Md)(e:Lv.Ent)(es:List Lv.Ent)(outs:List (List T)):Lv.FG S0 S (.b::ms) (e::es) outs=match AZS e,outs with
 |some id,o::outs=>(match Lv.get S0.bx id,Lv.get S.bx id with
  |some ls,some j=>if o.length=j.length then Lv.FG S0 { S with bx:=Lv.put S.bx id (o.map (Lv.D4 (Lv.DL ls)))} ms es outs else none
  |_,_=>none)
 |_,_=>none:=by
 obtain⟨sh,cs⟩:=e;cases sh<;>try rfl
 rcases cs with _|⟨l,_|⟨q,ls⟩⟩
 .rfl
 .cases l<;>try rfl
  rename_i id off;cases off<;>cases outs<;>rfl
 .cases l<;>try rfl
  rename_i id off;cases off<;>rfl
theorem AYs{S0 S:St}{c:C}{ks:List PK}{e:En}{es:List En}{outs:List (List U)}{K:St->Option ρ}:FG S0 S (.b c::ks) (e::es) outs K=match bp0 e,outs with
 |some id,o::outs=>(match get S0.bx id,get S.bx id with
  |some ls,some j=>if o.length=j.cs.length then FG S0 (S.NN id (o.map (D4 (DL ls.cs)))) ks es outs K else none|_,_=>none)
 |_,_=>none:=by
 obtain⟨sh,cs⟩:=e;cases sh<;>try rfl
 rcases cs with _|⟨l,_|⟨q,ls⟩⟩
 .rfl
 .cases l<;>try rfl
  rename_i id off;cases off<;>cases outs<;>rfl
 .cases l<;>try rfl
  rename_i id off;cases off<;>rfl
theorem Mk{S0:St}:∀{ks:List PK} {es:List En} {outs:List (List U)} {S:St} {K:St->Option ρ} {r:ρ},FG S0 S ks es outs K=some r ->
 ∃S',Lv.FG (S0.fg R) (S.fg R) (ks.map PK.md) (es.map (En.fg R)) (outs.map fun o=>o.map U.fg)=some (S'.fg R)/\BS S S'/\K S'=some r
 | [],es,[],S,K,r,h=>by
  refine⟨S,?_,BS.refl _,?_⟩
  .cases es<;>rfl
  .cases es<;>exact h
 | [],es,o::outs,S,K,r,h=>by cases es<;>simp[FG]at h
 |k::ks,[],outs,S,K,r,h=>by cases outs<;>simp[FG]at h
 |k::ks,e::es,outs,S,K,r,h=>by
  cases k with
  |b c=>
   rw[AYs]at h;simp only[AI,PK.md];rw[AW4,AOB];split at h
   .rename_i id o outs' J;rw[J];simp only[AI,Od];split at h
    .rename_i ls O L E;rw[L,E];split at h
     .rename_i B;obtain⟨S',j,q,y⟩:=Mk h;refine⟨S',?_,(BS.NN _ _ _).trans q,y⟩;simp only[Ap,Aj,B,if_true];rw[SX,Oo]at j;rw[M5];exact j
     .cases h
    .cases h
   .cases h
  |m c=>
   cases outs with
   |nil=>simp[FG]at h|cons o outs=>
    have h:Gw S e.cs o (fun S'=>FG S0 S' ks es outs K)=some r:=h;obtain⟨S1,j,q,y⟩:=Mx (R:=R) h;obtain⟨S',G,H,I⟩:=Mk y;refine⟨S',?_,q.trans H,I⟩;simp only[AI,PK.md,Lv.FG,En.fg,j];exact G
  |v c=>
   have h:FG S0 S ks es outs K=some r:=by cases outs<;>exact h
   obtain⟨S',j,q,y⟩:=Mk h;refine⟨S',?_,q,y⟩;cases outs<;>exact j
  |p c=>
   have h:FG S0 S ks es outs K=some r:=by cases outs<;>exact h
   obtain⟨S',j,q,y⟩:=Mk h;refine⟨S',?_,q,y⟩;cases outs<;>exact j
  |o c=>
   have h:FG S0 S ks es outs K=some r:=by cases outs<;>exact h
   obtain⟨S',j,q,y⟩:=Mk h;refine⟨S',?_,q,y⟩;cases outs<;>exact j
  |f x l=>
   have h:FG S0 S ks es outs K=some r:=by cases outs<;>exact h
   obtain⟨S',j,q,y⟩:=Mk h;refine⟨S',?_,q,y⟩;cases outs<;>exact j
theorem jl{S:St}{d:Nat}{ls:List AR}{K:St->Option ρ}{r:ρ}(h:Ot S d ls K=some r):∃S',Lv.Ot (S.fg R) d (ls.map (AR.fg R))=some (S'.fg R)/\BS S S'/\K S'=some r:=by
 unfold Ot at h;split at h
 .cases h
 .rename_i j;have q:d∉(S.fg R).pin:=MY.1 j;refine⟨_,?_,((BS.kill _ _).trans (BS.JM _ _ _ _)).trans (BS.NN _ _ _),h⟩;unfold Lv.Ot;rw[AT q,SX,K2,<-Jz (q':=fun l=>Lv.Ec d l||Lv.FK d l) (fun l=>by rw[WV,WU])];rfl
theorem AW3{S:St}{e:En}{k:Nat}(h:jX S e=some k):Lv.jX (S.fg R) (e.fg R)=some k:=by
 have gen:∀(cs:List AR),(if (FH (DL cs) cs).isSome=true then some (DL cs) else none)=some k->(if (Lv.FH (Lv.DL (cs.map (AR.fg R))) (cs.map (AR.fg R))).isSome=true then some (Lv.DL (cs.map (AR.fg R))) else none)=some k:=by
  intro cs h;rw[M5];cases q:FH (DL cs) cs with
  |none=>rw[q]at h;simp at h|some us=>rw[OG q];rw[q]at h;simpa using h
 obtain⟨sh,cs⟩:=e;cases sh<;>try exact gen cs h
 rcases cs with _|⟨l,_|⟨y,ls⟩⟩
 .exact gen [] h
 .have j:=gen [l];cases l with
  |bp id off=>
   grind[jX,En.fg,AR.fg,Lv.jX,Od]
  |_=>exact j h
 .have j:=gen (l::y::ls);cases l<;>exact j h
theorem AJz{g:GF}{S0:St}{es:List En}{k lab:Nat}(h:jY g.ps S0 es k=some lab):Lv.jY g.x (S0.fg R) (es.map (En.fg R)) k=some lab:=by
 unfold jY at h;unfold Lv.jY;rw[g.ms];simp only[A4];split at h
 .rename_i e B;rw[B];simp only[Ap];split at h
  .cases h
  .rename_i E;rw[AT]
   .exact AW3 h
   .intro j;cases y:g.ps[k]? with
    |none=>rw[y]at j;simp at j|some q=>rw[y]at j;cases q<;>simp[PK.md]at j;exact E _ y
 .cases h
theorem iV:∀(cs:List C) (x:Tu cs),PZ cs x=(Qi cs x).map fun l=>l.map U.fg| [],_=>rfl| [c],x=>congrArg (fun z=>[z]) (Ez c x)|c::j::cs,x=>by simp only[PZ,Qi,AI,Ez,iV (j::cs) x.2]
theorem AXI{d:Nat}{g:GF}{es:List En}{S0 S:St}{x:Tu (g.rk.cs++Kn g.ps)}{K:St->Option ρ}{r:ρ}(h:post d g es S0 S x K=some r) :
 ∃S',Lv.post d g.x (es.map (En.fg R)) (S0.fg R) (S.fg R) g.rk.sh ((PZ _ x).take g.rk.cs.length).flatten ((PZ _ x).drop g.rk.cs.length)=some (S'.fg R)/\BS S S'/\K S'=some r:=by
 unfold post at h;obtain⟨S1,J,G,j⟩:=Mk (R:=R) h;unfold Lv.post;rw[g.ms,iV,<-CU,J,<-Cl,<-JR];generalize ((Qi (g.rk.cs++Kn g.ps) x).take g.rk.cs.length).flatten=us at j;dsimp only;cases I:g.rk with
 |ptr k c=>
  rw[I]at j;simp only[RK.sh];dsimp only at j;split at j
  .rename_i lab H;rw[AJz H];obtain⟨S2,q,y,B⟩:=jl (R:=R) j;rw[Oo]at q;exact⟨S2,q,G.trans y,B⟩
  .cases j
 |vw k c=>
  rw[I]at j;simp only[RK.sh];dsimp only at j;split at j
  .rename_i lab H;rw[AJz H];obtain⟨S2,q,y,B⟩:=aY (R:=R) j;rw[Oo]at q;exact⟨S2,q,G.trans y,B⟩
  .cases j
 |ret cs=>
  rw[I]at j;dsimp only at j;obtain⟨S2,q,y,B⟩:=aY (R:=R) j;rw[YW]at q;refine⟨S2,?_,G.trans y,B⟩;simp only[RK.sh];cases E:ACi (cs.map wC) with
  |ptr k=>exfalso;revert E;unfold ACi;split<;>simp|vw k=>exfalso;revert E;unfold ACi;split<;>simp|one=>rw[E]at q;exact q|agg=>rw[E]at q;exact q|tup ns=>rw[E]at q;exact q
theorem vt{d:Nat}{g:GF}{fs:List Nat}{es:List En}{S:St}{K:St->Option ρ}{r:ρ}(hA:Al R fs (fX g.ps))(h:AG3 d g fs es S K=some r) :
 ∃S1 vs cs outs S',Lv.pre g.x (es.map (En.fg R)) (S.fg R)=some (S1,vs)/\Iv g.x vs g.rk.sh cs outs/\Lv.post d g.x (es.map (En.fg R)) (S.fg R) S1 g.rk.sh cs outs=some (S'.fg R)/\BS S S'/\K S'=some r:=by
 unfold AG3 at h;split at h
 .cases h
 .rename_i H;split at h
  .rename_i S1 a j;obtain⟨x,I,h⟩:=UY h;obtain⟨q,y⟩:=AN5 hA j;obtain⟨S',B,E,G⟩:=AXI (R:=R) h;refine⟨_,_,_,_,S',?_,g.ok a x I,B,y.trans E,G⟩;unfold Lv.pre;rw[g.ms];have:=wD (R:=R) g.ps [] es;rw[BV]at this;rw[this,H,AT (by decide),q]
  .cases h
end
end Y
end Lv
namespace Lv
open Go (IntKind BinOp UnOp)
namespace Y
section
variable{R:List GF}{ρ:Type}
theorem Ej{S:St}{x:YO}{l:AR}(h:S.one x=some l):(S.fg R).one (x.er R)=some (AR.fg R l):=by
 unfold St.one at h;split at h
 .rename_i l' j;cases h;simp only[Lv.St.one,KT j,En.fg,AI,BV]
 .cases h
theorem Nf{S:St}{x:YO}{u:U}(h:S.sc x=some u):(S.fg R).sc (x.er R)=some u.fg:=by
 unfold St.sc AGJ at h;split at h
 .rename_i o l' j;cases h;simp only[Lv.St.sc,KT j,En.fg,AI,BV,AR.fg,Lv.AGJ]
 .cases h
theorem RZ{S:St}{x:YO}{n:Int}(h:S.nat x=some n):(S.fg R).nat (x.er R)=some n:=by
 unfold St.nat at h;split at h
 .rename_i u j;simp only[Lv.St.nat,Nf j];cases u<;>simp[Aaf]at h<;>subst h<;>rfl
 .cases h
theorem AZJ{k:Kd}{a b:U}{c:Bool}(h:eqU k a b=some c):eqT k a.fg b.fg=some c:=by
 cases k<;>cases a<;>cases b<;>simp only[eqU]at h<;>first|cases h;done|exact h
theorem AJh:∀{ks:List Kd} {as j:List U} {c:Bool},ABF ks as j=some c->QW ks (as.map U.fg) (j.map U.fg)=some c
 | [],[],[],c,h=>h| [],[],b::j,c,h=>by simp[ABF]at h| [],a::as,j,c,h=>by cases j<;>simp[ABF]at h
 |k::ks,[],j,c,h=>by cases j<;>simp[ABF]at h
 |k::ks,a::as,[],c,h=>by simp[ABF]at h|k::ks,a::as,b::j,c,h=>by
  simp only[ABF]at h;split at h
  .rename_i x y q B;cases h;simp only[AI,QW,AZJ q,AJh B]
  .cases h
theorem vE:∀{ls:List AR} {us:List U},UM ls=some us->Lv.UM (ls.map (AR.fg R))=some (us.map U.fg)
 | [],us,h=>by cases h;rfl
 |l::ls,us,h=>by
  cases l with
  |t x=>
   simp only[UM]at h;split at h
   .rename_i q j;cases h;simp only[AI,AR.fg,Lv.UM,vE j,Ap]
   .cases h
  |_=>simp[UM]at h
theorem APN{cst:Bool}{p:Prop} [Decidable p] {x:Option ρ} {r:ρ} (h:gdc cst p x=some r):p/\x=some r:=by
 cases cst with
 |true=>simp only[gdc]at h;split at h<;>simp_all|false=>exact Og h
theorem AWw{cst:Bool}{op:BinOp}{k:IntKind}{a b:Int}{K:U->Option ρ}{r:ρ}(h:AZP cst op k a b K=some r):∃u,Za op k a b=some (U.fg u)/\K u=some r:=by
 cases op<;>simp only[AZP]at h<;>first
  |exact⟨_,rfl,h⟩|(obtain⟨j,h⟩:=APN h;exact⟨_,by simp only[Za];rw[AT j];rfl,h⟩)
  |cases h
theorem AVM{cst:Bool}{op:BinOp}{k:IntKind}{a b:Int}{K:U->Option ρ}{r:ρ}(h:shU cst op k a b K=some r):∃u,AGK op k a b=some (U.fg u)/\K u=some r:=by
 cases op<;>simp only[shU]at h<;>first
  |cases h;done
  |(obtain⟨j,h⟩:=APN h;exact⟨_,by simp only[AGK];rw[AT j];rfl,h⟩)
theorem AVe(n:Int):(U.u8 (toB n)).fg=.int .u8 (IntKind.u8.wrap n):=by simp only[U.fg,ANg]
theorem AYx{op:BinOp}{a b:Int}{K:U->Option ρ}{r:ρ}(h:byU op a b K=some r):∃u,Za op .u8 a b=some (U.fg u)/\K u=some r/\AWz op=false:=by
 cases op<;>simp only[byU]at h<;>first
  |cases h;done
  |exact⟨_,by rw[AVe];rfl,h,rfl⟩|exact⟨_,rfl,h,rfl⟩
theorem qH{op:BinOp}{k j:IntKind}{a b:Int}:ax op (.int k a) (.int j b)=if AWz op=true then AGK op k a b else if k=j then Za op k a b else none:=by
 cases op<;>rfl
theorem AV9{cst:Bool}{op:BinOp}{x y:U}{K:U->Option ρ}{r:ρ}(h:AYt cst op x y K=some r):∃u,ax op x.fg y.fg=some (U.fg u)/\K u=some r:=by
 unfold AYt at h;split at h
 .rename_i k a E b;split at h
  .rename_i B;obtain⟨u,j,q⟩:=AVM h;exact⟨u,by show ax op (.int k a) (.int E b)=_;rw[qH,AW B];exact j,q⟩
  .rename_i B;split at h
   .rename_i H;split at h
    .cases h
    .obtain⟨u,j,q⟩:=AWw h;exact⟨u,by show ax op (.int k a) (.int E b)=_;rw[qH,AT B,AW H];exact j,q⟩
   .cases h
 .rename_i k a b;split at h
  .rename_i B;obtain⟨u,j,q⟩:=AVM h;exact⟨u,by show ax op (.int k a) (.int .u8 b.toNat)=_;rw[qH,AW B];exact j,q⟩
  .cases h
 .rename_i a b;obtain⟨u,j,q,G⟩:=AYx h;exact⟨u,by show ax op (.int .u8 a.toNat) (.int .u8 b.toNat)=_;rw[qH,AT (by simp[G]),AW rfl];exact j,q⟩
 .rename_i a b;split at h
  .obtain⟨j,h⟩:=Og h;exact⟨_,by show (if a.length+b.length<=N5 then some (T.str (a++b)) else none)=some (U.fg (.str (a++b)));rw[AW j];rfl,h⟩
  .exact⟨_,rfl,h⟩
  .exact⟨_,rfl,h⟩
  .cases h
 .cases h
theorem ADT{op:BinOp}{b:Bool}{K:U->Option ρ}{r:ρ}(h:eqK op b K=some r):∃u,lf op b=some (U.fg u)/\K u=some r:=by
 cases op<;>simp only[eqK]at h<;>first
  |cases h;done
  |exact⟨_,rfl,h⟩
theorem Zc{α β:Type}{f:α->β}{xs:List α}(h:xs.isEmpty=false):∃y ys,xs.map f=y::ys:=by
 cases xs with
 |nil=>simp at h|cons x xs=>exact⟨_,_,rfl⟩
theorem AW8{S:St}{l:AR}{K:Bool->Option ρ}{r:ρ}(h:S.T2 l K=some r):∃b,(S.fg R).T2 (AR.fg R l)=some b/\K b=some r:=by
 unfold St.T2 at h;split at h
 .exact⟨true,rfl,h⟩
 .rename_i s c xs;obtain⟨j,h⟩:=Og h;obtain⟨y,ys,E⟩:=Zc (f:=enc c) j;exact⟨false,by simp only[AR.fg,E,Lv.St.T2],h⟩
 .rename_i q;simp only[AR.fg,Lv.St.T2,Iy];split at h
  .rename_i B;rw[B];exact⟨true,rfl,h⟩
  .rename_i c xs B;rw[B];obtain⟨j,h⟩:=Og h;obtain⟨y,ys,E⟩:=Zc (f:=enc c) j;exact⟨false,by simp only[Ap,AR.fg,U.fg,E],h⟩
  .cases h
 .cases h
theorem AYu{S:St}{cst:Bool}{c:Cls}{op:BinOp}{x y:En}{K:U->Option ρ}{r:ρ}(h:S.bin cst c op x y K=some r):∃u,(S.fg R).bin c op (x.fg R) (y.fg R)=some (U.fg u)/\K u=some r:=by
 unfold St.bin at h;split at h
 .split at h
  .exact AV9 h
  .cases h
 .split at h
  .exact ADT h
  .cases h
 .split at h
  .obtain⟨b,j,q⟩:=AW8 (R:=R) h;obtain⟨u,B,E⟩:=ADT q;rename_i l;exact⟨u,by show (match (S.fg R).T2 (AR.fg R l) with|some b=>lf op b|none=>none)=_;rw[j];exact B,E⟩
  .cases h
 .split at h
  .split at h
   .rename_i G H j q;split at h
    .rename_i b I;obtain⟨u,B,E⟩:=ADT h;refine⟨u,?_,E⟩;simp only[En.fg,Lv.St.bin,vE j,vE q,AJh I,B]
    .cases h
   .cases h
  .cases h
theorem AZ9{op:UnOp}{x:U}{K:U->Option ρ}{r:ρ}(h:unU op x K=some r):∃u,unT op x.fg=some (U.fg u)/\K u=some r:=by
 unfold unU at h;split at h
 .cases op<;>simp only at h<;>first|cases h;done|exact⟨_,rfl,h⟩
 .cases op<;>simp only at h<;>first|cases h;done|(split at h;cases h;exact⟨_,rfl,h⟩)
 .cases h
theorem ATT(k:IntKind)(n:Int):(mkInt k n).fg=.int k (k.wrap n):=by cases k<;>simp only[mkInt,AVe]<;>rfl
theorem ALC:∀(n:Nat) (x:tD n),Sv (.st n)=true->(AaR n x).all flat=true|0,x,_=>rfl|1,x,h=>absurd h (by decide)|2,x,_=>rfl|3,x,_=>rfl|4,x,_=>rfl|5,x,_=>rfl|6,x,h=>absurd h (by decide)|7,x,h=>absurd h (by decide)|8,x,h=>absurd h (by decide)|9,x,_=>rfl|10,x,_=>rfl|11,x,h=>absurd h (by decide)|12,x,h=>absurd h (by decide)|13,x,h=>absurd h (by decide)|14,x,h=>absurd h (by decide)|15,x,_=>rfl|16,x,h=>absurd h (by decide)|17,x,h=>absurd h (by decide)|_+18,x,_=>rfl
theorem ALB{c:C}(h:Sv c=true)(x:c.D):(enc c x).all flat=true:=by
 cases c with
 |l c=>cases h
 |m=>cases h
 |st n=>exact ALC n x h|un n=>cases h
 |_=>rfl
theorem IH{c:C}(h:Sv c=true)(xs:List c.D):GD (xs.map (enc c))=true:=by
 grind[GD,List.all_map,List.all_eq_true,ALB]
theorem AXc{c:C}{fl:Bool}{S S':St}{l:AR}{ys:List c.D}(h:N7 c fl S l=some (S',ys)):Lv.N7 c.size fl (S.fg R) (AR.fg R l)=some (S'.fg R,ys.map (enc c))/\BS S S':=by
 unfold N7 at h;split at h
 .rename_i s;split at h
  .rename_i xs j;cases h;have y:C.u=c:=by
    simp only[Rw.as]at j;split at j
    .rename_i y;exact y
    .cases j
   subst y;have:=ar j;simp only[AR.fg,U.fg,Lv.N7,C.size,if_true,<-this,Rw.fg];exact⟨rfl,BS.refl _⟩
  .cases h
 .cases h;exact⟨rfl,BS.refl _⟩
 .rename_i s J xs;split at h
  .rename_i G;split at h
   .rename_i I j;cases h;have y:J=c:=by
     simp only[Rw.as]at j;split at j
     .rename_i y;exact y
     .cases j
    subst y;have:=ar j;simp only[AR.fg,Lv.N7,IH G,and_self,if_true,<-this,Rw.fg];exact⟨trivial,BS.refl _⟩
   .cases h
  .cases h
 .rename_i q sub;simp only[AR.fg,Lv.N7,Iy];split at h
  .rename_i x j;rw[j];split at h
   .rename_i w H;split at h
    .rename_i I E;have L:eOf c.size x.fg=true:=by
      cases x<;>simp[content]at H<;>subst H<;>simp only[U.fg,eOf];simp only[Rw.sub,Rw.as]at E;split at E
      .rename_i y;subst y;simp
      .cases E
     have B:=ar E;rw[AVS]at B;simp only[Ap,AR.fg,TW H,L,if_true,B];cases fl with
     |true=>
      simp only[if_true]at h ⊢;split at h
      .rename_i G;cases h;rw[AW (IH G _)];exact⟨rfl,BS.refl _⟩
      .cases h
     |false=>
      simp only[BM,if_false]at h ⊢;cases h;rw[T7];exact⟨rfl,BS.out _ _⟩
    .cases h
   .cases h
  .cases h
 .cases h
theorem APO{e:Option (Nat×Nat)}{x:Option ρ}{r:ρ}(h:gdo e x=some r):(∀a b,e=some (a,b)->a=b)/\x=some r:=by
 cases e with
 |none=>exact⟨by intros;contradiction,h⟩
 |some p=>
  obtain⟨a,b⟩:=p;obtain⟨j,q⟩:=Og h
  grind
theorem vi{c:C}{S S':St}{l:AR}{b:U}{n:Nat}{e:Option (Nat×Nat)}(h:QK c S l=some (S',b,n,e))(Q:∀a b,e=some (a,b)->a=b):Lv.QK c.size (S.fg R) (AR.fg R l)=some (S'.fg R,b.fg,n)/\BS S S':=by
 unfold QK at h;split at h
 .cases h;exact⟨rfl,BS.refl _⟩
 .rename_i q sub;simp only[AR.fg,Lv.QK,Iy];split at h
  .rename_i x X;rw[X];split at h
   .rename_i w H;split at h
    .rename_i ys y;cases h;have E:eOf c.size x.fg=true:=by
      cases x<;>simp[content]at H<;>subst H<;>simp only[U.fg,eOf];simp only[Rw.as]at y;split at y
      .rename_i B;subst B;simp
      .cases y
     have I:=ar y;have G:toEnd sub (ys.map (enc c)).length=true:=by
      cases sub with
      |none=>rfl|some p=>
       obtain⟨lo,m⟩:=p;have:=Q _ _ rfl;simp[toEnd,this]
     simp only[Ap,AR.fg,TW H,I];rw[AW ⟨E,G⟩,T7,Wz];refine⟨?_,BS.out _ _⟩;rw[vD,<-Ys,Aj]
    .cases h
   .cases h
  .cases h
 .rename_i q i j Y xs;split at h
  .rename_i B;subst B;split at h
   .rename_i S1 J;cases h;obtain⟨L,O⟩:=AKA (R:=R) J;simp only[AR.fg,Lv.QK,if_true,L,U.fg,Aj];exact⟨trivial,O⟩
   .cases h
  .cases h
 .cases h
theorem AGk{c:C}{b u:U}{ys:List c.D}(h:AV0 c b ys=some u):u.fg=AKm c.size b.fg (ys.map (enc c)):=by
 unfold AV0 at h;split at h
 .grind[U.fg,AKm]
 .rename_i j;cases h;cases b<;>simp only[U.fg,AKm];exact(j _ _ rfl).elim
end
end Y
end Lv
namespace Lv
open Go (IntKind BinOp UnOp)
theorem NH{α β:Type}(f:α->β):∀(cs ls:List α) (o:Nat),Dd (ls.map f) o (cs.map f)=(Dd ls o cs).map f
 | [],ls,o=>by cases ls<;>rfl
 |c::cs,ls,o=>by
  simp only[AI,Dd];rw[<-G5,NH f cs]
theorem kg{α:Type}(t:α):∀(cs ls:List α) (o b:Nat),o<=b->b<o+cs.length->Dd (ls.set b t) o cs=Dd ls o cs
 | [],ls,o,b,q,j=>by simp at j;omega|c::cs,ls,o,b,q,j=>by
  simp only[Dd];by_cases h:b=o
  .subst h;rw[List.set_set]
  .rw[List.set_comm _ _ h];exact kg t cs _ _ _ (by omega) (by simp at j;omega)
namespace Y
section
variable{R:List GF}{ρ:Type}
theorem oW(r:CC)(i:Nat):∀(j:Nat) (us:List U),(Ip r i j us).map (AR.fg R)=Lv.Ip r i j (us.map U.fg)|_,[]=>rfl|j,u::us=>by simp only[Ip,AI,Lv.Ip,oX,oW r i (j+1) us]
theorem qF{c:C}{xs:List c.D}{i:Int}{x:c.D}(h:at? xs i=some x):(xs.map (enc c))[i.toNat]?=some (enc c x):=AYr (enc c) h
theorem Pu{S:St}{n:Nat}{l:AR}{K:List AR->Option ρ}{r:ρ}(h:S.load n l K=some r):∃ls,(S.fg R).load n (AR.fg R l)=some (ls.map (AR.fg R))/\K ls=some r:=by
 unfold St.load at h;split at h
 .grind[AR.fg,Lv.St.load,Od,List.length_map,AGi,List.map_take,List.map_drop]
 .rename_i q i j;simp only[AR.fg,Lv.St.load,Iy];split at h
  .rename_i c xs G;rw[G];obtain⟨x,B,h⟩:=UY h;split at h
   .rename_i y;refine⟨_,?_,h⟩;have E:=qF B;simp only[Ap,AR.fg,U.fg,E,Ez,Aj,y,if_true,oW,Cl,CU]
   .cases h
  .cases h
 .rename_i s cs;split at h
  .rename_i y;refine⟨_,?_,h⟩;simp only[AR.fg,Lv.St.load,Aj,y,if_true,AD];rw[<-Cl,Di,Di];congr 1;funext u;exact(oX _ _).symm
  .cases h
 .cases h
theorem R4:∀ls:List AR,Lv.HV (ls.map (AR.fg R))=HV ls
 | []=>rfl|l::ls=>by
  have j:=R4 ls;cases l with
  |t x=>cases x<;>first|rfl|exact j
  |und=>rfl|_=>exact j
theorem j8(b o n:Nat)(l:AR):Lv.Hc b o n (AR.fg R l)=Hc b o n l:=by
 grind[Lv.Hc,Hc,J7,PT,Nat.ble,Nat.le_of_ble_eq_true,decide_eq_false_iff_not,Nat.ble_eq_true_of_le,Nat.blt]
def ACy:List T->List (Nat×Nat)->List T|row,[]=>row|row,(_,b)::hs=>ACy (row.set b .top) hs
theorem AC0:∀(j:List (Nat×Nat)) (row:List T),(ACy row j).length=row.length| [],row=>rfl|(a,b)::j,row=>by simp only[ACy,AC0 j,List.length_set]
theorem YG(i:Nat):∀(j:List (Nat×Nat)) (X:List (List T)) (k:Nat),(∀p∈j,p.1=i)->(L0 X j)[k]?=if k=i then (X[i]?).map (fun row=>ACy row j) else X[k]?
 | [],X,k,h=>by
  grind[L0,ACy]
 |(a,b)::j,X,k,h=>by
  have q:a=i:=h (a,b) (by simp);subst q;simp only[L0];rw[YG a j _ k (fun p y=>h p (by simp[y]))];simp only[Wp,if_true];split
  .cases X[a]? <;> rfl
  .rfl
theorem Zm(j:Nat)(ts:List T):∀(q:List (Nat×Nat)) (row:List T),(∀p∈q,j<=p.2/\p.2<j+ts.length)->Dd (ACy row q) j ts=Dd row j ts
 | [],row,h=>rfl|(a,b)::q,row,h=>by
  simp only[ACy];rw[Zm j ts q _ (fun p y=>h p (by simp[y]))];have:=h (a,b) (by simp);exact kg _ _ _ _ _ this.1 this.2
theorem jK{i j n:Nat}:∀{q:List (Nat×Nat)},Nw i j n q->(∀p∈q,p.1=i)/\(∀p∈q,j<=p.2/\p.2<j+n)
 | [],_=>⟨by simp,by simp⟩|(a,b)::q,h=>by
  obtain⟨B,E,y⟩:=h;obtain⟨G,H⟩:=jK y
  grind
theorem AVV{n:Nat}{ls:List AR}{S S':St}{ls':List AR}(h:W0 n S ls=some (S',ls')):Lv.W0 n (S.fg R) (ls.map (AR.fg R))=some (S'.fg R,ls'.map (AR.fg R))/\BS S S':=by
 grind[W0,Lv.W0,Nat.blt_eq,PE,BS.refl]
theorem ANa{S:St}{n:Nat}{p:AR}{cs:List AR}{K:St->Option ρ}{r:ρ}(h:S.QE n p cs K=some r) :
 ∃S',(S.fg R).QE n (AR.fg R p) (cs.map (AR.fg R))=some (S'.fg R)/\BS S S'/\K S'=some r:=by
 unfold St.QE at h;split at h
 .rename_i id o;split at h
  .rename_i S1 E X;obtain⟨Y,J⟩:=AVV (R:=R) X;split at h
   .cases h
   .rename_i ht;dsimp only at h;split at h
    .rename_i ls hl;split at h
     .rename_i y;refine⟨_,?_,(J.trans (BS.kill _ _)).trans (BS.NN _ _ _),h⟩;simp only[AR.fg,Lv.St.QE,Y,R4,ht,BM,if_false,Aj];rw[Jz (j8 id o E.length),Od,hl];simp only[Ap,Aj,y,if_true];rw[SX,LK (j8 id o E.length),NH]
     .cases h
    .cases h
  .cases h
 .rename_i q i j;split at h
  .rename_i S1 us X;obtain⟨Y,J⟩:=K1 (R:=R) X;simp only[AR.fg,Lv.St.QE,Y,Iy];split at h
   .rename_i c xs hx;rw[hx];obtain⟨x,L,h⟩:=UY h;split at h
    .rename_i y;split at h
     .rename_i x' B;refine⟨_,?_,(J.trans (BS.Bh _ _ _)).trans (BS.kill _ _),h⟩;have Z:=qF L;simp only[Ap,AR.fg,U.fg,Z,Ez,Aj,y,if_true,AD];rw[<-Jz (P0 q),F9];congr 2;simp only[AR.fg,U.fg];rw[G5,H0 B,NH]
     .cases h
    .cases h
   .rename_i c xs I hx;rw[hx];obtain⟨x,L,h⟩:=UY h;split at h
    .rename_i y;split at h
     .rename_i x' B;obtain⟨hh,h⟩:=@Og _ _ (aP i.toNat j us.length I) _ _ h;obtain⟨hr,G⟩:=jK hh;refine⟨_,?_,(J.trans (BS.Bh _ _ _)).trans (BS.kill _ _),h⟩;have Z:=qF L;have O:=YG i.toNat I (xs.map (enc c)) i.toNat hr;rw[AW rfl,Z]at O;simp only[Ap]at O;simp only[Ap,AR.fg,O,AC0,NU];have hl2:j+(us.map U.fg).length<=c.size:=by rw[Aj,<-XJ c x];exact y
      rw[AW hl2,<-Jz (P0 q),F9];congr 3;simp only[AR.fg,U.fg];have h7:Dd (ACy (enc c x) I) j (us.map U.fg)=enc c x':=by
       rw[Zm _ _ _ _ (by rw[Aj];exact G),H0 B,Ez,NH]
      rw[h7];congr 1;congr 1;apply FA;intro k;have hlt:i.toNat<xs.length:=(OE L).2.2.1;have H:i.toNat<(L0 (xs.map (enc c)) I).length:=(AO.1 O).1;rw[Dh,A4,Dh];by_cases Q:i.toNat=k
      .subst Q;simp only[if_true,hlt,H,Ap]
      .rw[AT Q,AT Q,YG i.toNat I _ k hr,AT (fun h=>Q h.symm),A4]
     .cases h
    .cases h
   .cases h
  .cases h
 .cases h
def erP(R:List GF)(p:Nat×Nat×YO):Nat×Nat×Opd:=(p.1,p.2.1,p.2.2.er R)
theorem mP{S:St}:∀{ps:List (Nat×Nat×YO)} {ls ls':List AR},LU S ls ps=some ls'->Lv.LU (S.fg R) (ls.map (AR.fg R)) (ps.map (erP R))=some (ls'.map (AR.fg R))
 | [],ls,ls',h=>by cases h;rfl
 |(o,n,x)::ps,ls,ls',h=>by
  simp only[LU]at h;split at h
  .rename_i e q;split at h
   .rename_i j;have:=mP (ps:=ps) h;simp only[AI,erP,Lv.LU,KT q,En.fg,Aj,R4];rw[AW j,NH];exact this
   .cases h
  .cases h
def erQ(R:List GF)(p:Nat×YO):Nat×Opd:=(p.1,p.2.er R)
theorem AOC{c:C}{n:Nat}:∀{ps:List (Nat×YO)} {S S':St} {xs j:List c.D},bsK c n S xs ps=some (S',j) ->
 Lv.bsK c.size n (S.fg R) (xs.map (enc c)) (ps.map (erQ R))=some (S'.fg R,j.map (enc c))/\BS S S'
 | [],S,S',xs,j,h=>by cases h;exact⟨rfl,BS.refl _⟩
 |(i,x)::ps,S,S',xs,j,h=>by
  simp only[bsK]at h;split at h
  .rename_i e J;split at h
   .rename_i I;split at h
    .rename_i S1 us q;obtain⟨B,E⟩:=K1 (R:=R) q;split at h
     .rename_i y L;obtain⟨G,H⟩:=AOC (ps:=ps) h;simp only[AI,erQ,Lv.bsK,KT J,En.fg,Aj];rw[AW I,B];dsimp only;rw[<-H0 L,<-G5];exact⟨G,E.trans H⟩
     .cases h
    .cases h
   .cases h
  .cases h
theorem AOD{c:C}{n:Nat}{z:List T}:∀{ps:List (Nat×YO)} {S S':St} {ys:List c.D} (pre:List (List T)),bsL c n S ps=some (S',ys)->ABh pre.length n ps=true->pre.length<=n ->
 Lv.bsK c.size n (S.fg R) (pre++List.replicate (n-pre.length) z) (ps.map (erQ R))=some (S'.fg R,pre++ys.map (enc c))/\BS S S'
 | [],S,S',ys,pre,h,j,Q=>by
  cases h;simp only[ABh,beq_iff_eq]at j;simp only[BV,Lv.bsK,j,Dk,List.replicate_zero];exact⟨trivial,BS.refl _⟩
 |(i,x)::ps,S,S',ys,pre,h,j,Q=>by
  simp only[ABh,AE,beq_iff_eq]at j;obtain⟨rfl,j⟩:=j;simp only[bsL]at h;split at h
  .rename_i e O;split at h
   .rename_i L;split at h
    .rename_i S1 us B;obtain⟨E,G⟩:=K1 (R:=R) B;split at h
     .rename_i y S2 Z Y J;cases h;have q:(pre++[enc c y]).length=pre.length+1:=by simp
      obtain⟨H,I⟩:=AOD (z:=z) (ps:=ps) (pre++[enc c y]) J (by rw[q];exact j) (by rw[q];omega);simp only[AI,erQ,Lv.bsK,KT O,En.fg,Aj];rw[AW L,E];dsimp only;rw[<-H0 Y];have X:(pre++List.replicate (n-pre.length) z).set pre.length (enc c y)=(pre++[enc c y])++List.replicate (n-(pre++[enc c y]).length) z:=by
       rw[List.set_append_right _ _ (Af _),Dk,q];have:n-pre.length=(n-(pre.length+1))+1:=by omega
       rw[this,List.replicate_succ];simp
      rw[X];refine⟨?_,G.trans I⟩;simpa[erQ] using H
     .cases h
    .cases h
   .cases h
  .cases h
theorem M8{S:St}{len:Nat}{lo hi:Option YO}{K:Nat->Nat->Option ρ}{r:ρ}(h:range S len lo hi K=some r) :
 ∃a b,(S.fg R).range len (lo.map (YO.er R)) (hi.map (YO.er R))=some (a,b)/\K a b=some r/\∀{α:Type} (xs:List α),xs.length=len->part lo hi xs a b=(xs.drop a).take (b-a):=by
 unfold range at h
 grind[part,Lv.St.range,Lv.St.ATU,Og,RZ,List.take_of_length_le]
theorem WD:∀(q:List (Nat×Nat)) (X:List (List T)),(L0 X q).length=X.length| [],_=>rfl|(i,j)::q,X=>by rw[L0,WD q];simp[IP]
theorem Sf{S:St}{c:C}{l:AR}(h:S.wide c l=true)(y:(∃s j xs,l=.vw s j xs)\/(∃q sub,l=.al q sub)\/l=.t .nil):(S.fg R).wide c.size (AR.fg R l)=true:=by
 rcases y with ⟨s,j,xs,rfl⟩|⟨q,sub,rfl⟩|rfl
 .simp only[St.wide,decide_eq_true_eq]at h;subst h;simp[AR.fg,Lv.St.wide]
 .simp only[St.wide]at h;simp only[AR.fg,Lv.St.wide,Iy];split at h
  .rename_i x B;rw[B];simp only[Ap,AR.fg];cases x<;>simp only[U.fg,eOf];simp only[decide_eq_true_eq]at h;subst h;simp
  .grind[AR.fg,eOf]
  .cases h
 .rfl
theorem ALj{off:Nat}{p q:AR}(h:Lh off p=some q):Lv.Lh off (AR.fg R p)=some (AR.fg R q):=by
 cases p<;>simp only[Lh]at h<;>first
  |cases h;done
  |(cases h;simp only[AR.fg,Lv.Lh,CU])
theorem ATC(p:AR):Lv.St.QP (AR.fg R p)=QP p:=by cases p<;>rfl
theorem AY0{l:AR}{c:Cap}(h:l.AYy=some c):c.fg=AR.fg R l/\(AR.fg R l).plain=true:=by
 unfold AR.AYy at h;split at h<;>first|cases h;done|(cases h;exact⟨rfl,rfl⟩)
theorem mK:∀{es:List En} {cs:List Cap},qA es=some cs->((es.map (En.fg R)).all fun e=>Lv.ABi e.sh&&e.cs.length==1&&e.cs.all Lv.AR.plain)=true/\(es.map (En.fg R)).flatMap Lv.Ent.cs=cs.map Cap.fg
 | [],cs,h=>by cases h;exact⟨rfl,rfl⟩
 |e::es,cs,h=>by
  unfold qA at h;split at h
  .rename_i j;cases j
  .rename_i l y j;cases j;split at h
   .rename_i c q B E;cases h;obtain⟨G,H⟩:=mK E;obtain⟨I,J⟩:=AY0 (R:=R) B;constructor
    .rw[AI,List.all_cons,G];simp[En.fg,Lv.ABi,J]
    .simp only[AI,List.flatMap_cons,H,En.fg,BV,List.singleton_append,I]
   .cases h
  .cases h
end
end Y
end Lv
namespace Lv
open Go (IntKind BinOp UnOp)
namespace Y
section
variable{R:List GF}{ρ:Type}
def zsC(c:C):List T:=match ADB c with|some z=>enc c z|none=>[]
theorem AGg{c:C}{z:c.D}(h:ADB c=some z):zsC c=enc c z:=by unfold zsC;rw[h]
def YOp.er:YOp R->XOp|.mv d x=>.mv d (x.er R)|.as d x=>.as d (x.er R)|.pick d c a b=>.pick d (c.er R) (a.er R) (b.er R)|.alloc d zs=>.alloc d (zs.map U.fg)|.box d x=>.box d (x.er R)|.build d zs ps=>.build d (zs.map U.fg) (ps.map (erP R))|.B9 d n c ps=>.B9 d n (zsC c) (ps.map (erQ R))|.ld d n x=>.ld d n (x.er R)|.st n x v=>.st n (x.er R) (v.er R)|.chk d x=>.chk d (x.er R)|.bin d c op x y=>.bin d c op (x.er R) (y.er R)|.un d op x=>.un d op (x.er R)|.cvI d k x=>.cvI d k (x.er R)|.MF d x=>.MF d (x.er R)|.Np d x=>.Np d (x.er R)|.MK d n caps=>.MK d (xr R n) (caps.map (YO.er R))|.LM d c n=>.LM d (zsC c) (n.er R) (n.er R)|.sub d c x lo hi=>.sub d c.size (x.er R) (lo.map (YO.er R)) (hi.map (YO.er R))|.UJ d x lo hi=>.UJ d (x.er R) (lo.map (YO.er R)) (hi.map (YO.er R))|.fa d off x=>.fa d off (x.er R)|.fld d off n x=>.fld d off n (x.er R)|.ia d c x i=>.ia d c.size (x.er R) (i.er R)|.ix d x i=>.ix d (x.er R) (i.er R)|.ext d x i=>.ext d (x.er R) i|.call d g _ _ args=>.call d g.x (args.map (YO.er R))|.Dm d x ms args=>.Dm d (x.er R) ms (args.map (YO.er R))|.len d x=>.len d (x.er R)|.lens d x=>.lens d (x.er R)|.app d c fl x y=>.app d c.size fl (x.er R) (y.er R)|.Qd d c x n=>.Qd d (zsC c) (x.er R) (n.er R)|.cpy d c x y=>.cpy d c.size (x.er R) (y.er R)|.mm d m x y=>.mm d m (x.er R) (y.er R)|.mmk d=>.mmk d|.Si d x k=>.Si d (x.er R) (k.er R)|.RY x k v=>.RY (x.er R) (k.er R) (v.er R)|.Sj d x=>.Sj d (x.er R)|.bad d=>.bad d|.drop ds=>.drop ds|.T3 ns=>.T3 (ns.map fun p=>(p.1,p.2.size))
def Plain(o:YOp R)(S:St)(K:St->Option ρ)(r:ρ):Prop:=∃S',Lv.ev o.er (S.fg R)=some (S'.fg R)/\BS S S'/\K S'=some r
theorem Cc{o:YOp R}{S S1:St}{d:Nat}{sh:Sh}{cs:List AR}{K:St->Option ρ}{r:ρ}(h:G2 S1 d sh cs K=some r)(E:BS S S1)(B:Lv.ev o.er (S.fg R)=(S1.fg R).Ds d ⟨sh,cs.map (AR.fg R)⟩):Plain o S K r:=by
 obtain⟨S',j,q,y⟩:=aY (R:=R) h;exact⟨S',B.trans j,E.trans q,y⟩
variable{S:St}{K:St->Option ρ}{r:ρ}
theorem AJ7{d:Nat}{x:YO}(h:ev (.mv d x:YOp R) S K=some r):Plain (.mv d x:YOp R) S K r:=by
 simp only[ev]at h;split at h
 .rename_i e j;exact Cc h (BS.refl _) (by simp only[YOp.er,Lv.ev,KT j,En.fg])
 .cases h
theorem ATf{d:Nat}{x:YO}(h:ev (.as d x:YOp R) S K=some r):Plain (.as d x:YOp R) S K r:=by
 simp only[ev]at h;split at h
 .rename_i e B;split at h
  .rename_i S1 cs j;obtain⟨q,y⟩:=PE (R:=R) j;exact Cc h y (by simp only[YOp.er,Lv.ev,KT B,En.fg,q])
  .cases h
 .cases h
theorem uA{d:Nat}{c a b:YO}(h:ev (.pick d c a b:YOp R) S K=some r):Plain (.pick d c a b:YOp R) S K r:=by
 simp only[ev]at h;split at h
 .rename_i t ea eb q y B;rcases AGn h with ⟨rfl,j⟩|⟨rfl,j⟩
  .exact Cc j (BS.refl _) (by simp only[YOp.er,Lv.ev,Nf q,KT y,KT B,U.fg,En.fg,if_true])
  .exact Cc j (BS.refl _) (by simp only[YOp.er,Lv.ev,Nf q,KT y,KT B,U.fg,En.fg,BM,if_false])
 .cases h
theorem j6{d:Nat}{j:List U}(h:ev (.alloc d j:YOp R) S K=some r):Plain (.alloc d j:YOp R) S K r:=by
 simp only[ev]at h;obtain⟨S',q,y,B⟩:=jl (R:=R) h;refine⟨S',?_,y,B⟩;rw[<-q];simp only[YOp.er,Lv.ev,Lv.Ot,Di];rfl
theorem AFj{d:Nat}{x:YO}(h:ev (.box d x:YOp R) S K=some r):Plain (.box d x:YOp R) S K r:=by
 simp only[ev]at h;split at h
 .rename_i e G;split at h
  .rename_i S1 cs j;obtain⟨q,y⟩:=AWE (R:=R) j;split at h
   .cases h
   .rename_i I;obtain⟨S',H,B,E⟩:=jl (R:=R) h;refine⟨S',?_,y.trans B,E⟩;simp only[YOp.er,Lv.ev,KT G,En.fg,q,R4,Aj]
    grind[LK,Lv.Ec,Lv.FK,WV,WU,Lv.Ot]
  .cases h
 .cases h
theorem j7{d:Nat}{j:List U}{ps:List (Nat×Nat×YO)}(h:ev (.build d j ps:YOp R) S K=some r):Plain (.build d j ps:YOp R) S K r:=by
 simp only[ev]at h;split at h
 .rename_i ls q;have:=mP (R:=R) q;rw[Di]at this;refine Cc h (BS.refl _) ?_;simp only[YOp.er,Lv.ev,Di];rw[show (Lv.AR.t∘U.fg)=(AR.fg R∘AR.t) from rfl,this]
 .cases h
theorem Yd{d n:Nat}{c:C}{ps:List (Nat×YO)}(h:ev (.B9 d n c ps:YOp R) S K=some r):Plain (.B9 d n c ps:YOp R) S K r:=by
 simp only[ev]at h;split at h
 .rename_i z E;split at h
  .rename_i y;split at h
   .rename_i S1 xs j;have q:Lv.bsK c.size n (S.fg R) (rowsOf n (enc c z)) (ps.map (erQ R))=some (S1.fg R,xs.map (enc c))/\BS S S1:=by
     split at j
     .rename_i B;have:=AOD (R:=R) (z:=enc c z) [] j B (Nat.zero_le _);simpa[rowsOf] using this
     .have:=AOC (R:=R) j;rw[GN]at this;exact this
    refine Cc h q.2 ?_;simp only[YOp.er,Lv.ev,AGg E,NU];rw[AW y,q.1];rfl
   .cases h
  .cases h
 .cases h
theorem ATj{d:Nat}{n:Option Nat}{x:YO}(h:ev (.ld d n x:YOp R) S K=some r):Plain (.ld d n x:YOp R) S K r:=by
 simp only[ev]at h;split at h
 .rename_i p q;obtain⟨ls,j,h⟩:=Pu (R:=R) h
  grind[Cc,BS.refl,YOp.er,Lv.ev,Ej]
 .cases h
theorem ATk{n:Nat}{x v:YO}(h:ev (.st n x v:YOp R) S K=some r):Plain (.st n x v:YOp R) S K r:=by
 simp only[ev]at h;split at h
 .rename_i p e G E;split at h
  .rename_i B;obtain⟨S',j,q,y⟩:=ANa (R:=R) h;refine⟨S',?_,q,y⟩;simp only[YOp.er,Lv.ev,Ej G,KT E,En.fg,Aj];rw[AW B,j]
  .cases h
 .cases h
theorem AFk{d:Nat}{x:YO}(h:ev (.chk d x:YOp R) S K=some r):Plain (.chk d x:YOp R) S K r:=by
 simp only[ev]at h
 grind[Cc,BS.refl,YOp.er,Lv.ev,Ej,ATC]
theorem AFi{d:Nat}{c:Cls}{op:BinOp}{x y:YO}(h:ev (.bin d c op x y:YOp R) S K=some r):Plain (.bin d c op x y:YOp R) S K r:=by
 simp only[ev]at h;split at h
 .rename_i ex ey j q;obtain⟨u,B,h⟩:=AYu (R:=R) h;exact Cc h (BS.refl _) (by simp only[YOp.er,Lv.ev,KT j,KT q,B];rfl)
 .cases h
theorem ATl{d:Nat}{op:UnOp}{x:YO}(h:ev (.un d op x:YOp R) S K=some r):Plain (.un d op x:YOp R) S K r:=by
 simp only[ev]at h;split at h
 .rename_i a j;obtain⟨u,q,h⟩:=AZ9 h;exact Cc h (BS.refl _) (by simp only[YOp.er,Lv.ev,Nf j,q];rfl)
 .cases h
theorem AFm{d:Nat}{k:IntKind}{x:YO}(h:ev (.cvI d k x:YOp R) S K=some r):Plain (.cvI d k x:YOp R) S K r:=by
 simp only[ev]at h
 grind[Cc,BS.refl,YOp.er,Lv.ev,RZ,AR.fg,ATT]
theorem tp{d:Nat}{x:YO}(h:ev (.MF d x:YOp R) S K=some r):Plain (.MF d x:YOp R) S K r:=by
 simp only[ev]at h;split at h
 .rename_i s j;exact Cc h (BS.refl _) (by simp only[YOp.er,Lv.ev,Nf j,U.fg];rfl)
 .cases h
theorem tn{d:Nat}{x:YO}(h:ev (.Np d x:YOp R) S K=some r):Plain (.Np d x:YOp R) S K r:=by
 simp only[ev]at h;split at h
 .rename_i l y;split at h
  .rename_i w G;split at h
   .rename_i j E;have q:=Oc (R:=R) G;rw[ar E]at q;refine Cc h (BS.refl _) ?_;have B:bytesOf (j.map (enc .u))=some j:=vm j;simp only[YOp.er,Lv.ev,Ej y,q,B];rfl
   .cases h
  .cases h
 .cases h
theorem tu{d n:Nat}{caps:List YO}(h:ev (.MK d n caps:YOp R) S K=some r):Plain (.MK d n caps:YOp R) S K r:=by
 simp only[ev]at h;split at h
 .rename_i es B;split at h
  .rename_i cs y;obtain⟨j,q⟩:=mK (R:=R) y;refine Cc h (BS.refl _) ?_;simp only[YOp.er,Lv.ev,Yk B];rw[AW j,q];rfl
  .cases h
 .cases h
theorem tw{d:Nat}{c:C}{n:YO}(h:ev (.LM d c n:YOp R) S K=some r):Plain (.LM d c n:YOp R) S K r:=by
 simp only[ev]at h;split at h
 .grind[Og,Cc,BS.refl,YOp.er,Lv.ev,RZ,AGg,NU,rowsOf,AR.fg,U.fg,List.map_replicate]
 .cases h
theorem uB{d:Nat}{x:YO}{lo hi:Option YO}(h:ev (.UJ d x lo hi:YOp R) S K=some r):Plain (.UJ d x lo hi:YOp R) S K r:=by
 simp only[ev]at h;split at h
 .rename_i s y;obtain⟨a,b,j,h,q⟩:=M8 (R:=R) h;rw[q s rfl]at h;exact Cc h (BS.refl _) (by simp only[YOp.er,Lv.ev,Nf y,U.fg,j];rfl)
 .cases h
theorem AO8{q:CC}{sub:Option (Nat×Nat)}{w:Rw}{c:C}{xs:List c.D}(h:S.elems (.al q sub)=some w)(j:w.as c=some xs):(S.fg R).elems (.al q sub)=some (xs.map (enc c)):=by
 have:=Oc (R:=R) h;rw[ar j]at this;exact this
theorem AFr{d:Nat}{c:C}{x:YO}{lo hi:Option YO}(h:ev (.sub d c x lo hi:YOp R) S K=some r):Plain (.sub d c x lo hi:YOp R) S K r:=by
 simp only[ev]at h;split at h
 .rename_i l G;split at h
  .rename_i H;split at h
   .rename_i q sub;have j:=Sf (R:=R) H (.inr (.inl ⟨_,_,rfl⟩));split at h
    .rename_i w I;split at h
     .rename_i xs J;obtain⟨a,b,B,h,_⟩:=M8 (R:=R) h;have E:=AO8 (R:=R) I J;have y:=Ej (R:=R) G;simp only[AR.fg]at j y;refine Cc h (BS.refl _) ?_;simp only[YOp.er,Lv.ev,y,j,if_true,E,Aj,B];cases sub with|none=>rfl|some p=>rfl
     .cases h
    .cases h
   .rename_i s L xs;have j:=Sf (R:=R) H (.inl ⟨_,_,_,rfl⟩);obtain⟨a,b,B,h,E⟩:=M8 (R:=R) h;rw[E xs rfl]at h;have y:=Ej (R:=R) G;simp only[AR.fg]at j y;refine Cc h (BS.refl _) ?_;simp only[YOp.er,Lv.ev,y,j,if_true,Lv.St.elems,Aj,B,AI,BV,AR.fg,Cl,CU]
   .obtain⟨a,b,B,h,_⟩:=M8 (R:=R) h;have j:=Sf (R:=R) H (.inr (.inr rfl));have y:=Ej (R:=R) G;simp only[AR.fg,U.fg]at j y;refine Cc h (BS.refl _) ?_;simp only[YOp.er,Lv.ev,y,j,if_true,Lv.St.elems,AS,B,AI,BV,AR.fg,U.fg]
   .cases h
  .cases h
 .cases h
theorem ATg{d off:Nat}{x:YO}(h:ev (.fa d off x:YOp R) S K=some r):Plain (.fa d off x:YOp R) S K r:=by
 simp only[ev]at h;split at h
 .rename_i p j;split at h
  .rename_i q y;exact Cc h (BS.refl _) (by simp only[YOp.er,Lv.ev,Ej j,ALj y];rfl)
  .cases h
 .cases h
theorem AFo{d off:Nat}{n:Option Nat}{x:YO}(h:ev (.fld d off n x:YOp R) S K=some r):Plain (.fld d off n x:YOp R) S K r:=by
 simp only[ev]at h;split at h
 .rename_i cs q;split at h
  .rename_i j;refine Cc h (BS.refl _) ?_;simp only[YOp.er,Lv.ev,KT q,En.fg,Aj,j,if_true,Cl,CU]
  .cases h
 .cases h
theorem ATh{d:Nat}{c:C}{x i:YO}(h:ev (.ia d c x i:YOp R) S K=some r):Plain (.ia d c x i:YOp R) S K r:=by
 simp only[ev]at h;split at h
 .rename_i l n I J;split at h
  .rename_i O;split at h
   .rename_i q sub;have j:=Sf (R:=R) O (.inr (.inl ⟨_,_,rfl⟩));split at h
    .rename_i H xs X;obtain⟨y,G,h⟩:=UY h;have L:=Oc (R:=R) X;have E:=Ej (R:=R) I;simp only[AR.fg]at j E L;have B:=OE G;refine Cc h (BS.refl _) ?_;simp only[YOp.er,Lv.ev,E,RZ J,L,Rw.fg,Aj];rw[AW ⟨j,B.1,B.2.1⟩];cases sub with
     |none=>rfl|some p=>
      obtain⟨lo,m⟩:=p;simp only[AI,BV,AR.fg];congr 5;have:=B.1;omega
    .split at h
     .split at h
      .rename_i H xs Z Y;obtain⟨y,G,h⟩:=UY h;have E:=Ej (R:=R) I;simp only[AR.fg]at j E;have B:=OE G;refine Cc h (BS.refl _) ?_;simp only[YOp.er,Lv.ev,E,RZ J,Lv.St.elems,Iy,Y,Ap,AR.fg,Lv.content,Lv.Is,WD,Aj];rw[AW ⟨j,B.1,B.2.1⟩];rfl
      .cases h
     .cases h
   .rename_i s H xs;have j:=Sf (R:=R) O (.inl ⟨_,_,_,rfl⟩);obtain⟨y,G,h⟩:=UY h;have E:=Ej (R:=R) I;simp only[AR.fg]at j E;have B:=OE G;refine Cc h (BS.refl _) ?_;simp only[YOp.er,Lv.ev,E,RZ J,Lv.St.elems,Aj];rw[AW ⟨j,B.1,B.2.1⟩];have Q:(xs.map (enc H)).getD n.toNat []=(cells H y).map U.fg:=by
     rw[BP,qF G,JW,Ez]
    rw[Q];rfl
   .cases h
  .cases h
 .cases h
theorem ATi{d:Nat}{x i:YO}(h:ev (.ix d x i:YOp R) S K=some r):Plain (.ix d x i:YOp R) S K r:=by
 simp only[ev]at h;split at h
 .rename_i s n B q;obtain⟨y,E,h⟩:=UY h;have j:=OE E;refine Cc h (BS.refl _) ?_;simp only[YOp.er,Lv.ev,Nf B,U.fg,RZ q];rw[AW ⟨j.1,j.2.1⟩];have:s.getD n.toNat 0=y:=by rw[BP,j.2.2.2.1,JW]
  rw[this];rfl
 .cases h
theorem AFn{d:Nat}{x:YO}{i:Nat}(h:ev (.ext d x i:YOp R) S K=some r):Plain (.ext d x i:YOp R) S K r:=by
 simp only[ev]at h;split at h
 .rename_i s;split at h
  .rename_i ns cs v E;split at h
   .rename_i n G;split at h
    .rename_i B;split at h
     .rename_i S1 ls q;obtain⟨j,y⟩:=PE (R:=R) q;refine Cc h y ?_;simp only[YOp.er,YO.er,Lv.ev,V3,E,Ap,Ent.fg,G,Aj,B,if_true];rw[Cl,CU,pz]at j;rw[j]
     .cases h
    .cases h
   .cases h
  .cases h
 .cases h
theorem tq{d:Nat}{x:YO}(h:ev (.lens d x:YOp R) S K=some r):Plain (.lens d x:YOp R) S K r:=by
 simp only[ev]at h;split at h
 .rename_i s j;exact Cc h (BS.refl _) (by simp only[YOp.er,Lv.ev,Nf j,U.fg];rfl)
 .cases h
theorem AFp{d:Nat}{x:YO}(h:ev (.len d x:YOp R) S K=some r):Plain (.len d x:YOp R) S K r:=by
 simp only[ev]at h;split at h
 .rename_i l y;split at h
  .rename_i c xs q;have j:=Oc (R:=R) q;exact Cc h (BS.refl _) (by simp only[YOp.er,Lv.ev,Ej y,j,Rw.fg,Aj];rfl)
  .rename_i q;have j:=Oc (R:=R) q;exact Cc h (BS.refl _) (by simp only[YOp.er,Lv.ev,Ej y,j,Rw.fg,AS];rfl)
  .cases h
 .cases h
theorem AFh{d:Nat}{c:C}{fl:Bool}{x y:YO}(h:ev (.app d c fl x y:YOp R) S K=some r):Plain (.app d c fl x y:YOp R) S K r:=by
 simp only[ev]at h;split at h
 .rename_i lx ly O Q;split at h
  .rename_i S1 ys j;obtain⟨q,B⟩:=AXc (R:=R) j;split at h
   .rename_i S2 b n e E;obtain⟨J,h⟩:=APO h;obtain⟨G,H⟩:=vi (R:=R) E J;obtain⟨I,h⟩:=Og h;split at h
    .rename_i u L;refine Cc h (B.trans H) ?_;simp only[YOp.er,Lv.ev,Ej O,Ej Q,q,G,Aj];rw[AW I,<-AGk L];rfl
    .cases h
   .cases h
  .cases h
 .cases h
theorem tl{d:Nat}{c:C}{x n:YO}(h:ev (.Qd d c x n:YOp R) S K=some r):Plain (.Qd d c x n:YOp R) S K r:=by
 simp only[ev]at h;split at h
 .rename_i lx k z J H L;obtain⟨j,h⟩:=Og h;split at h
  .rename_i S2 b m e q;obtain⟨G,h⟩:=APO h;obtain⟨y,B⟩:=vi (R:=R) q G;obtain⟨E,h⟩:=Og h;split at h
   .rename_i u I;refine Cc h B ?_;simp only[YOp.er,Lv.ev,Ej J,RZ H,AGg L,NU];rw[AW j]
    try dsimp only
    rw[y]
    try dsimp only
    rw[AW E];have:=AGk I;rw[GN]at this;simp only[rowsOf,<-this,AI,BV,AR.fg]
   .cases h
  .cases h
 .cases h
theorem AFl{d:Nat}{c:C}{x y:YO}(h:ev (.cpy d c x y:YOp R) S K=some r):Plain (.cpy d c x y:YOp R) S K r:=by
 simp only[ev]at h;split at h
 .rename_i q ly hx hy;split at h
  .rename_i O B w X J;split at h
   .rename_i ys xs hys j;split at h
    .rename_i E;obtain⟨hne,h⟩:=Og h;have Y:O=c:=by
      simp only[Rw.as]at j;split at j
      .rename_i E;exact E
      .cases j
     subst Y;have Z:B=xs:=by simp only[Rw.as]at j;simpa using j
     subst Z;have Q:=Oc (R:=R) J;rw[ar hys]at Q;have h3:=Ej (R:=R) hx;simp only[AR.fg]at h3;have H:(S.fg R).wide O.size (AR.fg R ly)=true:=by
      refine Sf E.1 ?_;unfold St.elems at J;split at J
      .exact .inr (.inl ⟨_,_,rfl⟩)
      .exact .inl ⟨_,_,_,rfl⟩
      .exact .inr (.inr rfl)
      .cases J
     have G:(B.map (enc O)).isEmpty=false:=by cases B<;>simp_all
     have I:=Ej (R:=R) hy;generalize AR.fg R ly=L at I Q H;refine Cc h ((BS.Bh _ _ _).trans (BS.kill _ _)) ?_;simp only[YOp.er,Lv.ev,h3,I,Iy,X,Ap,AR.fg,U.fg,Q];rw[AW ⟨trivial,H,IH E.2 _,IH E.2 _,G⟩,<-Jz (P0 q),F9];simp only[AR.fg,U.fg,Db,Cl,CU,Aj,AI,BV]
    .cases h
   .cases h
  .cases h
 .cases h
theorem AJ6{d:Nat}{m:Bool}{x y:YO}(h:ev (.mm d m x y:YOp R) S K=some r):Plain (.mm d m x y:YOp R) S K r:=by
 simp only[ev]at h;split at h
 .rename_i k a E b j q;split at h
  .rename_i B;exact Cc h (BS.refl _) (by simp only[YOp.er,Lv.ev,Nf j,Nf q,U.fg];rw[AW B];rfl)
  .cases h
 .cases h
theorem jg{x:YO}{q:CC}{ks:List (Int×Int)}(h:S.On x=some (q,ks)):(S.fg R).On (x.er R)=some (q,ks):=by
 unfold St.On at h;split at h
 .rename_i E j;split at h
  .rename_i y B;cases h;have:=Ej (R:=R) j
   grind[AR.fg,Lv.St.On,Iy,U.fg]
  .cases h
 .cases h
theorem AFq{d:Nat}(h:ev (.mmk d:YOp R) S K=some r):Plain (.mmk d:YOp R) S K r:=by
 simp only[ev]at h;exact Cc h (BS.refl _) (by simp only[YOp.er,Lv.ev];rfl)
theorem tt{d:Nat}{x k:YO}(h:ev (.Si d x k:YOp R) S K=some r):Plain (.Si d x k:YOp R) S K r:=by
 simp only[ev]at h;split at h
 .rename_i q ks n j y;exact Cc h (BS.refl _) (by simp only[YOp.er,Lv.ev,jg j,Nf y,U.fg];rfl)
 .cases h
theorem tx{d:Nat}{x:YO}(h:ev (.Sj d x:YOp R) S K=some r):Plain (.Sj d x:YOp R) S K r:=by
 simp only[ev]at h;split at h
 .rename_i q ks j;exact Cc h (BS.refl _) (by simp only[YOp.er,Lv.ev,jg j];rfl)
 .cases h
theorem tz{x k v:YO}(h:ev (.RY x k v:YOp R) S K=some r):Plain (.RY x k v:YOp R) S K r:=by
 simp only[ev]at h;split at h
 .rename_i q ks n m j y B;refine⟨_,?_,(BS.Bh _ _ _).trans (BS.kill _ _),h⟩;simp only[YOp.er,Lv.ev,jg j,Nf y,Nf B,U.fg];rw[<-Jz (P0 q),F9];rfl
 .cases h
theorem AJk{o:YOp R}(h:ev o S K=some r):∃S',BS S S'/\K S'=some r/\∀N:Lv.St->Prop,N (S'.fg R)->opK Iv o.er (S.fg R) N:=by
 have pl:Plain o S K r->∃S',BS S S'/\K S'=some r/\∀N:Lv.St->Prop,N (S'.fg R)->opK Iv o.er (S.fg R) N:=fun ⟨S',j,q,y⟩=>⟨S',q,y,fun N hN=>.inl ⟨_,j,hN⟩⟩
 cases o with
 |mv=>exact pl (AJ7 h)|as=>exact pl (ATf h)|pick=>exact pl (uA h)|alloc=>exact pl (j6 h)|box=>exact pl (AFj h)|build=>exact pl (j7 h)|B9=>exact pl (Yd h)|ld=>exact pl (ATj h)|st=>exact pl (ATk h)|chk=>exact pl (AFk h)|bin=>exact pl (AFi h)|un=>exact pl (ATl h)|cvI=>exact pl (AFm h)|MF=>exact pl (tp h)|Np=>exact pl (tn h)|MK=>exact pl (tu h)|LM=>exact pl (tw h)|sub=>exact pl (AFr h)|UJ=>exact pl (uB h)|fa=>exact pl (ATg h)|fld=>exact pl (AFo h)|ia=>exact pl (ATh h)|ix=>exact pl (ATi h)|ext=>exact pl (AFn h)|len=>exact pl (AFp h)|lens=>exact pl (tq h)|app=>exact pl (AFh h)|Qd=>exact pl (tl h)|cpy=>exact pl (AFl h)|mm=>exact pl (AJ6 h)|mmk=>exact pl (AFq h)|Si=>exact pl (tt h)|RY=>exact pl (tz h)|Sj=>exact pl (tx h)|bad=>simp[ev]at h|drop Q=>exact pl ⟨_,by simp only[YOp.er,Lv.ev,AA9],BS.Hj _ _,h⟩|T3 ns=>exact pl ⟨_,by simp only[YOp.er,Lv.ev,tO],BS.Py _ _,h⟩|call d g fs I args=>
  simp only[ev]at h;split at h
  .rename_i es G;obtain⟨S1,vs,cs,outs,S',j,q,y,B,E⟩:=vt (Al.of I) h;refine⟨S',B,E,fun N hN=>.inr ⟨d,g.x,es.map (En.fg R),S1,vs,_,cs,outs,_,?_,j,q,y,hN⟩⟩;simp only[YOp.er,Lv.FN,Yk G]
  .cases h
 |Dm d x ms args=>
  simp only[ev]at h;split at h
  .rename_i n caps es H G;split at h
   .rename_i g J;split at h
    .rename_i L;obtain⟨S1,vs,cs,outs,S',j,q,y,B,E⟩:=vt (Al.nil _) h;refine⟨S',B,E,fun N hN=>.inr ⟨d,g.x,_,S1,vs,_,cs,outs,_,?_,j,q,y,hN⟩⟩;have O:xr R n=g.x:=by unfold xr;rw[J]
     simp only[YOp.er,Lv.FN,Ej H,Yk G,AR.fg,O];rw[AW (by rw[g.ms,L])];simp only[Db,Di,AD,Prod.mk.injEq,true_and,List.append_cancel_left_eq];apply List.map_congr_left;intro c _;simp only[Function.comp,En.fg,AI,BV,Y2]
    .cases h
   .cases h
  .cases h
end
end Y
end Lv
namespace Lv
open Go (IntKind BinOp UnOp)
namespace Y
section
variable{R:List GF}{ρ:Type}
def Bt.er:Bt R->QV|.nil=>.nil|.op i g sf o rest=>.op i g sf o.er rest.er|.dr ds rest=>.dr ds rest.er|.nl ns rest=>.nl (ns.map fun p=>(p.1,p.2.size)) rest.er|.both _ a b=>.both a.er b.er
def GI.er:GI R->Mg|.skip=>.skip|.region ops _=>.region (ops.map fun p=>(p.1,p.2.er)) []|.Ta r _=>.Ta r.er []|.seq a b=>.seq a.er b.er|.join _ a b=>.seq a.er b.er|.cond c _ _ t e=>.cond c [] [] t.er e.er|.block id b=>.block id b.er|.loop _ b=>.loop b.er|.exit id=>.exit id|.ret=>.ret|.scope b=>.scope b.er|.or a b=>.or a.er b.er|.dead=>.dead|.AXH _ b=>.loop b.er
theorem AZG(o:YOp R):o.er.iT=o.iT:=by cases o<;>rfl
theorem km{o:YOp R}{S:St}{K:St->Option ρ}{r:ρ}(h:LP o S K=some r):∃S',Lv.LP o.er (S.fg R)=some (S'.fg R)/\BS S S'/\K S'=some r:=by
 unfold LP at h;unfold Lv.LP;rw[AZG];split at h
 .rename_i d B;obtain⟨S',j,q,y⟩:=aY (R:=R) h;rw[B];exact⟨S',j,q,y⟩
 grind[BS.refl]
theorem AU3{s:Nat}{e x:Ent}:∀{l:List (Nat×Ent)},get l s=some x->e.fg R=x.fg R->fgE R (reE s e l)=fgE R l
 | [],h,_=>rfl|(k,y)::l,h,q=>by
  simp only[get]at h;simp only[reE];cases j:Nat.beq k s with
  |true=>rw[j]at h;cases h;simp only[fgE,AI,q]
  |false=>
   rw[j]at h;have:=AU3 (l:=l) h q
   grind[fgE]
theorem AJo{s:Nat}{e:Ent}:∀{l:List (Nat×Ent)} {k:Nat} {y:Ent},get (reE s e l) k=some y->y=e\/get l k=some y
 | [],k,y,h=>.inr h|(j,x)::l,k,y,h=>by
  simp only[reE]at h;cases B:Nat.beq j s with
  |true=>
   grind[get,Nat.beq]
  |false=>
   rw[B]at h;simp only[get]at h ⊢;cases q:Nat.beq j k with
   |true=>rw[q]at h;exact .inr h|false=>rw[q]at h;exact AJo h
theorem AZV{S:St}{s:Nat}{b:Bool}{v:Nat}(h:get S.tm s=some ⟨.one,[.t (.bool b)],v⟩):(S.lit s b).fg R=S.fg R/\BS S (S.lit s b):=by
 refine⟨?_,by simp[St.lit],fun k e q y=>?_,fun _ _ h _=>h,rfl⟩
 .simp only[St.fg,St.lit];have:=AU3 (R:=R) (e:=⟨.one,[.t (.bool b)],S.nv⟩) h rfl;rw[this]
 .rcases AJo q with rfl|j
  .grind
  .exact j
def Gd(R:List GF)(g:Option (Nat×Bool))(o:YOp R)(S:Lv.St)(N:Lv.St->Prop):Prop:=
 ∃b,Lv.wanted S g=some b/\((b=true/\opK Iv o.er S N)\/(b=false/\∃S',Lv.LP o.er S=some S'/\N S'))
theorem ph{S:St}{s:Nat}{w b:Bool}{v:Nat}(h:get S.tm s=some ⟨.one,[.t (.bool b)],v⟩):Lv.wanted (S.fg R) (some (s,w))=some (b==w):=by
 simp only[Lv.wanted,V3,h];rfl
theorem AC6{S:St}{s:Nat}{w:Bool}{v:Nat}(h:get S.tm s=some ⟨.one,[.und],v⟩):Lv.wanted (S.fg R) (some (s,w))=some false:=by
 simp only[Lv.wanted,V3,h];rfl
theorem R7{S:St}{s:Nat}{w b:Bool}{v:Nat}{o:YOp R}{f:Option ρ}{K:St->Option ρ}{r:ρ}{P:Lv.St->(Lv.St->Prop)->Prop}(y:get S.tm s=some ⟨.one,[.t (.bool b)],v⟩)(x:Bool)(G:x=(b==w))
 (h:kC x o (S.lit s b) f K=some r) (H:f=some r->∃S',BS (S.lit s b) S'/\K S'=some r/\∀N:Lv.St->Prop,N (S'.fg R)->P ((S.lit s b).fg R) N) :
 ∃S',BS S S'/\K S'=some r/\∀N:Lv.St->Prop,N (S'.fg R)->∃b,Lv.wanted (S.fg R) (some (s,w))=some b/\((b=true/\P (S.fg R) N)\/(b=false/\∃S',Lv.LP o.er (S.fg R)=some S'/\N S')):=by
 obtain⟨I,E⟩:=AZV (R:=R) y;cases x with
 |true=>
  obtain⟨S',j,q,B⟩:=H h;refine⟨S',E.trans j,q,fun N hN=>⟨_,ph y,.inl ⟨G.symm,?_⟩⟩⟩
  grind
 |false=>
  obtain⟨S',j,q,B⟩:=km (R:=R) h;refine⟨S',E.trans q,B,fun N hN=>⟨_,ph y,.inr ⟨G.symm,_,?_,hN⟩⟩⟩
  rwa[I]at j
theorem AZK{g:Option (Nat×Bool)}{o:YOp R}{S:St}{K:St->Option ρ}{r:ρ}(h:evg g o S K=some r) :
 ∃S',BS S S'/\K S'=some r/\∀N:Lv.St->Prop,N (S'.fg R)->Gd R g o (S.fg R) N:=by
 unfold evg at h;split at h
 .obtain⟨S',y,B,E⟩:=AJk h;exact⟨S',y,B,fun N hN=>⟨true,rfl,.inl ⟨rfl,E N hN⟩⟩⟩
 .rename_i s w;split at h
  .rename_i b v j;rcases AGn h with ⟨rfl,q⟩|⟨rfl,q⟩
   .exact R7 (P:=opK Iv o.er) j w (by cases w<;>rfl) q fun G=>AJk G
   .exact R7 (P:=opK Iv o.er) j (!w) (by cases w<;>rfl) q fun G=>AJk G
  .rename_i v j;obtain⟨S',y,B,E⟩:=km (R:=R) h;exact⟨S',B,E,fun N hN=>⟨false,AC6 j,.inr ⟨rfl,_,y,hN⟩⟩⟩
  .cases h
theorem APC:∀{ops:List (Option (Nat×Bool)×YOp R)} {S:St} {K:St->Option ρ} {r:ρ},evs ops S K=some r ->
 ∃S',BS S S'/\K S'=some r/\∀N:Lv.St->Prop,N (S'.fg R)->AFt Iv (ops.map fun p=>(p.1,p.2.er)) (S.fg R) N
 | [],S,K,r,h=>⟨S,BS.refl _,h,fun N hN=>hN⟩|(g,o)::ops,S,K,r,h=>by
  have j:evg g o S (fun S'=>evs ops S' K)=some r:=by
   grind[evs,Ef]
  obtain⟨S1,q,y,B⟩:=AZK j;obtain⟨S2,E,G,H⟩:=APC y;exact⟨S2,q.trans E,G,fun N hN=>B _ (H N hN)⟩
theorem Aa9(o:YOp R):o.er.wr=o.wr.map (YO.er R):=by cases o<;>rfl
theorem XF(l:AR):∀(ks:List PK) (es:List En),Lv.JJ (AR.fg R l) (ks.map PK.md) (es.map (En.fg R))=JJ l ks es
 | [],es=>by cases es<;>rfl
 |k::ks,[]=>rfl|k::ks,e::es=>by
  simp only[AI,Lv.JJ,JJ,pn,En.fg,List.all_map,Function.comp_def,ANM,XF l ks es]
theorem AWq{S:St}{l:AR}(h:S.My l=true):(S.fg R).My (AR.fg R l)=true:=by
 unfold St.My at h;split at h
 .simp only[AR.fg,Lv.St.My,Od,Option.isSome_map];exact h
 .rfl
 .rename_i s cs;cases cs<;>simp_all[AR.fg,Lv.St.My]
 .grind[AR.fg,Lv.St.My,Iy,AW0]
 .rfl
 .rfl
 .cases h
theorem vu{o:YOp R}{S:Lv.St}(j:∀d g fs y args,o≠.call d g fs y args)(q:∀d x ms args,o≠.Dm d x ms args):Lv.FN o.er S=none:=by
 cases o<;>first|rfl|(exact(j _ _ _ _ _ rfl).elim)|(exact(q _ _ _ _ rfl).elim)
theorem AVF{o:YOp R}{S:St}{l:AR}(h:TE o S l=true):Lv.TE o.er (S.fg R) (AR.fg R l)=true:=by
 unfold TE at h;simp only[AE]at h;obtain⟨X,q⟩:=h;unfold Lv.TE;rw[AWq X,Bool.true_and];have E:(AR.fg R l).Bz=l.Bz:=J7 l;have gen:(∀d g fs Q args,o≠.call d g fs Q args)->(∀d x ms args,o≠.Dm d x ms args) ->
  (match o.wr with|some y=>(match S.one y with|some lt=>l.Bz.isNone||!(match l.Bz with|some r=>isR lt.Bz r|none=>lt.Bz.isNone)|none=>false)|none=>true)=true ->
  (match Lv.FN o.er (S.fg R) with
  |some (_,f,es)=>Lv.JJ (AR.fg R l) (EI f) es|none=>match o.er.wr with
   |some y=>(match (S.fg R).one y with|some lt=>(AR.fg R l).Bz.isNone||decide ((AR.fg R l).Bz≠lt.Bz)|none=>true)
   |none=>true)=true:=by
  intro n1 n2 h;rw[vu n1 n2,Aa9];cases hy:o.wr with
  |none=>rfl|some y=>
   rw[hy]at h;dsimp only at h;cases B:S.one y with
   |none=>rw[B]at h;cases h
   |some lt=>
    rw[B]at h;dsimp only at h ⊢;simp only[Ap,Ej B];rw[E,J7,decide_not,<-AVB];exact h
 cases o with
 |st n x v=>
  dsimp only at q;have H:Lv.names (AR.fg R l)=names l:=jk l;generalize AR.fg R l=L at H E ⊢;cases B:S.one x with
  |none=>rw[B]at q;cases q
  |some lp=>
   rw[B]at q;have G:=Ej (R:=R) B;simp only[YOp.er,G];cases lp with
   |bp id o=>
    dsimp only at q;show (!(Lv.names L).contains id)=true;rw[H,List.contains_eq_mem,<-SP];exact q
   |ep r0 i j=>
    dsimp only at q;show decide (L.Bz≠some r0)=true;rw[E];rw[YL]at q;simpa using q
   |_=>cases q
 |call d g fs Q args=>
  dsimp only at q;cases J:S.rds args with
  |none=>rw[J]at q;cases q
  |some es=>
   rw[J]at q;have G:=XF (R:=R) l g.ps es;generalize AR.fg R l=L at G ⊢;simp only[YOp.er,Lv.FN,Yk J,g.ms];rw[G];exact q
 |Dm d x ms args=>
  dsimp only at q;split at q
  .rename_i n caps es H Y;split at q
   .rename_i g Z;split at q
    .rename_i h7;have hx:xr R n=g.x:=by unfold xr;rw[Z]
     have I:=XF (R:=R) l g.ps (es++caps.map fun l=>⟨.one,[l.leaf]⟩);rw[Db,Di]at I;rw[show (En.fg R∘fun l=>(⟨.one,[l.leaf]⟩:En))=((fun l=>(⟨Sh.one,[l]⟩:Lv.Ent))∘Cap.fg) from by funext c;simp only[Function.comp,En.fg,AI,BV,Y2],<-Di]at I;have O:=Ej (R:=R) H;simp only[AR.fg,hx]at O;generalize AR.fg R l=L at I ⊢;simp only[YOp.er,Lv.FN,O,Yk Y];rw[AW (by rw[g.ms,h7])];dsimp only;rw[g.ms,I];exact q
    .cases q
   .cases q
  .cases q
 |_=>exact gen (by intros;simp) (by intros;simp) q
theorem ACb{o:YOp R}{S:St}:∀{sf:List Nat},I7 o S sf=true->Lv.I7 o.er (S.fg R) sf=true
 | [],h=>rfl|s::sf,h=>by
  simp only[I7,AE]at h;obtain⟨j,q⟩:=h;simp only[Lv.I7,AE];refine⟨?_,ACb q⟩;split at j
  .rename_i l y;have:=Ej (R:=R) y
   grind[YO.er,AVF]
  .cases j
theorem qh:∀{a b:List (Option Nat)},AK0 a b=true->a=b
 | [],[],_=>rfl|none::r,none::r',h=>by simp only[AK0]at h;rw[qh h]|some a::r,some b::r',h=>by simp only[AK0,AE]at h;rw[beq_true h.1,qh h.2]| [],_::_,h=>by cases h
 |none::_,[],h=>by cases h
 |some _::_,[],h=>by cases h
 |none::_,some _::_,h=>by cases h
 |some _::_,none::_,h=>by cases h
theorem AWj{a b:Sh}(h:AZI a b=true):a=b:=by
 cases a<;>cases b<;>first|rfl|(cases h;done)|(simp only[AZI]at h;first|rw[qh h]|rw[beq_true h])
theorem ABE:∀{a b:Option (Nat×Nat)},AJg a b=true->a=b
 |none,none,_=>rfl|some (a,b),some (j,q),h=>by simp only[AJg,AE]at h;rw[beq_true h.1,beq_true h.2]|none,some _,h=>by cases h
 |some _,none,h=>by cases h
theorem Yn:∀{a b:CC},CC.is a b=true->a=b
 |.tmp s c,.tmp q j,h=>by
  grind[CC.is,beq_true]
 |.cell s c,.cell q j,h=>by
  simp only[CC.is]at h
  grind[beq_true]
 |.tmp _ _,.cell _ _,h=>by cases h
 |.cell _ _,.tmp _ _,h=>by cases h
theorem ABD{a b:Src}(h:AJf a b=true):a=b:=by
 cases a<;>cases b<;>simp only[AJf,AE]at h<;>first|(cases h;done)|rw[Yn h.1,ABE h.2]|rw[beq_true h]
theorem AJe:∀{a b:List (Nat×Nat)},AWi a b=true->a=b
 | [],[],_=>rfl|(a,b)::r,(j,q)::r',h=>by simp only[AWi,AE]at h;rw[beq_true h.1.1,beq_true h.1.2,AJe h.2]| [],_::_,h=>by cases h
 |_::_,[],h=>by cases h
theorem RM{γ:Type}{b:Bool}{x:Option γ}{r:γ}(h:ifB b x=some r):b=true/\x=some r:=by
 grind
theorem ADF{x y:U}{X:Option ρ}{r:ρ}(h:agU x y X=some r):x=y/\X=some r:=by
 cases x<;>cases y<;>simp only[agU]at h<;>first|(cases h;done)|exact⟨rfl,h⟩|skip
 .grind[RB]
 .grind[RB]
 .obtain⟨rfl,j⟩:=RB h;exact⟨rfl,j⟩
 .obtain⟨rfl,j⟩:=RB h;exact⟨rfl,j⟩
 .grind[RB]
 grind[RB]
theorem AGh:∀{x y:List U} {X:Option ρ} {r:ρ},AYk x y X=some r->x=y/\X=some r
 | [],[],X,r,h=>⟨rfl,h⟩|a::x,b::y,X,r,h=>by
  obtain⟨rfl,j⟩:=ADF h;obtain⟨rfl,q⟩:=AGh j;exact⟨rfl,q⟩
 | [],_::_,_,_,h=>by cases h
 |_::_,[],_,_,h=>by cases h
theorem ANx{c j:C}{xs:List c.D}{ys:List j.D}{X:Option ρ}{r:ρ}(h:(if h:j=c then eqv xs (h▸ys) X else none)=some r):(⟨c,xs⟩:(c:C)×List c.D)=⟨j,ys⟩/\X=some r:=by
 grind[RB]
theorem AVw:∀{x y:AR} {X:Option ρ} {r:ρ},AaF x y X=some r->x=y/\X=some r
 |.t x,.t y,X,r,h=>by obtain⟨rfl,q⟩:=ADF h;exact⟨rfl,q⟩
 |.und,.und,X,r,h=>⟨rfl,h⟩|.ow x,.ow y,X,r,h=>by obtain⟨rfl,q⟩:=ADF h;exact⟨rfl,q⟩
 |.owh c xs Y,.owh I ys L,X,r,h=>by
  obtain⟨q,G⟩:=RM h;obtain⟨E,B⟩:=ANx G;cases E;rw[AJe q];exact⟨rfl,B⟩
 |.al O s,.al r' H,X,r,h=>by
  obtain⟨q,h⟩:=RM h
  grind[Yn,ABE]
 |.ep O i j,.ep r' Z j',X,r,h=>by
  obtain⟨q,h⟩:=RM h
  grind[RB,Yn,beq_true]
 |.vw s c xs,.vw H I ys,X,r,h=>by
  obtain⟨q,G⟩:=RM h;obtain⟨E,B⟩:=ANx G;cases E;rw[ABD q];exact⟨rfl,B⟩
 |.vp s cs,.vp H J,X,r,h=>by
  obtain⟨q,h⟩:=RM h;obtain⟨rfl,B⟩:=AGh h;rw[ABD q];exact⟨rfl,B⟩
 |.bp a o,.bp Q o',X,r,h=>by
  obtain⟨q,h⟩:=RM h
  grind[beq_true]
 |.fn _ _,.fn _ _,_,_,h=>by cases h
 |.t _,.und,_,_,h=>by cases h
 |.t _,.ow _,_,_,h=>by cases h
 |.t _,.owh _ _ _,_,_,h=>by cases h
 |.t _,.al _ _,_,_,h=>by cases h
 |.t _,.ep _ _ _,_,_,h=>by cases h
 |.t _,.vw _ _ _,_,_,h=>by cases h
 |.t _,.vp _ _,_,_,h=>by cases h
 |.t _,.bp _ _,_,_,h=>by cases h
 |.t _,.fn _ _,_,_,h=>by cases h
 |.und,.t _,_,_,h=>by cases h
 |.und,.ow _,_,_,h=>by cases h
 |.und,.owh _ _ _,_,_,h=>by cases h
 |.und,.al _ _,_,_,h=>by cases h
 |.und,.ep _ _ _,_,_,h=>by cases h
 |.und,.vw _ _ _,_,_,h=>by cases h
 |.und,.vp _ _,_,_,h=>by cases h
 |.und,.bp _ _,_,_,h=>by cases h
 |.und,.fn _ _,_,_,h=>by cases h
 |.ow _,.t _,_,_,h=>by cases h
 |.ow _,.und,_,_,h=>by cases h
 |.ow _,.owh _ _ _,_,_,h=>by cases h
 |.ow _,.al _ _,_,_,h=>by cases h
 |.ow _,.ep _ _ _,_,_,h=>by cases h
 |.ow _,.vw _ _ _,_,_,h=>by cases h
 |.ow _,.vp _ _,_,_,h=>by cases h
 |.ow _,.bp _ _,_,_,h=>by cases h
 |.ow _,.fn _ _,_,_,h=>by cases h
 |.owh _ _ _,.t _,_,_,h=>by cases h
 |.owh _ _ _,.und,_,_,h=>by cases h
 |.owh _ _ _,.ow _,_,_,h=>by cases h
 |.owh _ _ _,.al _ _,_,_,h=>by cases h
 |.owh _ _ _,.ep _ _ _,_,_,h=>by cases h
 |.owh _ _ _,.vw _ _ _,_,_,h=>by cases h
 |.owh _ _ _,.vp _ _,_,_,h=>by cases h
 |.owh _ _ _,.bp _ _,_,_,h=>by cases h
 |.owh _ _ _,.fn _ _,_,_,h=>by cases h
 |.al _ _,.t _,_,_,h=>by cases h
 |.al _ _,.und,_,_,h=>by cases h
 |.al _ _,.ow _,_,_,h=>by cases h
 |.al _ _,.owh _ _ _,_,_,h=>by cases h
 |.al _ _,.ep _ _ _,_,_,h=>by cases h
 |.al _ _,.vw _ _ _,_,_,h=>by cases h
 |.al _ _,.vp _ _,_,_,h=>by cases h
 |.al _ _,.bp _ _,_,_,h=>by cases h
 |.al _ _,.fn _ _,_,_,h=>by cases h
 |.ep _ _ _,.t _,_,_,h=>by cases h
 |.ep _ _ _,.und,_,_,h=>by cases h
 |.ep _ _ _,.ow _,_,_,h=>by cases h
 |.ep _ _ _,.owh _ _ _,_,_,h=>by cases h
 |.ep _ _ _,.al _ _,_,_,h=>by cases h
 |.ep _ _ _,.vw _ _ _,_,_,h=>by cases h
 |.ep _ _ _,.vp _ _,_,_,h=>by cases h
 |.ep _ _ _,.bp _ _,_,_,h=>by cases h
 |.ep _ _ _,.fn _ _,_,_,h=>by cases h
 |.vw _ _ _,.t _,_,_,h=>by cases h
 |.vw _ _ _,.und,_,_,h=>by cases h
 |.vw _ _ _,.ow _,_,_,h=>by cases h
 |.vw _ _ _,.owh _ _ _,_,_,h=>by cases h
 |.vw _ _ _,.al _ _,_,_,h=>by cases h
 |.vw _ _ _,.ep _ _ _,_,_,h=>by cases h
 |.vw _ _ _,.vp _ _,_,_,h=>by cases h
 |.vw _ _ _,.bp _ _,_,_,h=>by cases h
 |.vw _ _ _,.fn _ _,_,_,h=>by cases h
 |.vp _ _,.t _,_,_,h=>by cases h
 |.vp _ _,.und,_,_,h=>by cases h
 |.vp _ _,.ow _,_,_,h=>by cases h
 |.vp _ _,.owh _ _ _,_,_,h=>by cases h
 |.vp _ _,.al _ _,_,_,h=>by cases h
 |.vp _ _,.ep _ _ _,_,_,h=>by cases h
 |.vp _ _,.vw _ _ _,_,_,h=>by cases h
 |.vp _ _,.bp _ _,_,_,h=>by cases h
 |.vp _ _,.fn _ _,_,_,h=>by cases h
 |.bp _ _,.t _,_,_,h=>by cases h
 |.bp _ _,.und,_,_,h=>by cases h
 |.bp _ _,.ow _,_,_,h=>by cases h
 |.bp _ _,.owh _ _ _,_,_,h=>by cases h
 |.bp _ _,.al _ _,_,_,h=>by cases h
 |.bp _ _,.ep _ _ _,_,_,h=>by cases h
 |.bp _ _,.vw _ _ _,_,_,h=>by cases h
 |.bp _ _,.vp _ _,_,_,h=>by cases h
 |.bp _ _,.fn _ _,_,_,h=>by cases h
 |.fn _ _,.t _,_,_,h=>by cases h
 |.fn _ _,.und,_,_,h=>by cases h
 |.fn _ _,.ow _,_,_,h=>by cases h
 |.fn _ _,.owh _ _ _,_,_,h=>by cases h
 |.fn _ _,.al _ _,_,_,h=>by cases h
 |.fn _ _,.ep _ _ _,_,_,h=>by cases h
 |.fn _ _,.vw _ _ _,_,_,h=>by cases h
 |.fn _ _,.vp _ _,_,_,h=>by cases h
 |.fn _ _,.bp _ _,_,_,h=>by cases h
theorem py:∀{x y:List AR} {X:Option ρ} {r:ρ},AVx x y X=some r->x=y/\X=some r
 | [],[],X,r,h=>⟨rfl,h⟩|a::x,b::y,X,r,h=>by
  obtain⟨rfl,j⟩:=AVw h;obtain⟨rfl,q⟩:=py j;exact⟨rfl,q⟩
 | [],_::_,_,_,h=>by cases h
 |_::_,[],_,_,h=>by cases h
theorem aE{a b:Nat}(h:Nat.blt a b=true):a<b:=by simp[Nat.blt]at h;omega
theorem ADE{v:Nat}{P:Nat->Ent->Prop}(hP:∀k e q,P k e->P k q->e=q):∀{x y:List (Nat×Ent)} {X:Option ρ} {r:ρ},(∀k e,(k,e)∈x->e.ver<v->P k e)->(∀k e,(k,e)∈y->e.ver<v->P k e)->agE v x y X=some r->fgE R x=fgE R y/\X=some r
 | [],[],X,r,_,_,h=>⟨rfl,h⟩|(k,e)::x,(Q,q)::y,X,r,H,I,h=>by
  simp only[agE]at h;split at h
  .rename_i O;have:=beq_true O;subst this;split at h
   .rename_i G;simp only[AE]at G;have:=hP k e q (H k e (Bc ..) (aE G.1)) (I k q (Bc ..) (aE G.2));subst this;obtain⟨B,E⟩:=ADE hP (fun k e j=>H k e (Au _ j)) (fun k e j=>I k e (Au _ j)) h;exact⟨by unfold fgE at B ⊢;rw[AI,AI,B],E⟩
   .obtain⟨J,h⟩:=RM h;obtain⟨L,h⟩:=py h;obtain⟨B,E⟩:=ADE hP (fun k e j=>H k e (Au _ j)) (fun k e j=>I k e (Au _ j)) h;exact⟨by unfold fgE at B ⊢;rw[AI,AI,B];simp only[Ent.fg,AWj J,L],E⟩
  .cases h
 | [],_::_,_,_,_,_,h=>by cases h
 |_::_,[],_,_,_,_,h=>by cases h
theorem ADD{v:Nat}{P:Nat->Bx->Prop}(hP:∀k e q,P k e->P k q->e=q):∀{x y:List (Nat×Bx)} {X:Option ρ} {r:ρ},(∀k e,(k,e)∈x->e.ver<v->P k e)->(∀k e,(k,e)∈y->e.ver<v->P k e)->agB v x y X=some r->fgB R x=fgB R y/\X=some r
 | [],[],X,r,_,_,h=>⟨rfl,h⟩|(k,e)::x,(O,q)::y,X,r,H,I,h=>by
  simp only[agB]at h;split at h
  .rename_i L;have:=beq_true L;subst this;split at h
   .rename_i G;simp only[AE]at G;have:=hP k e q (H k e (Bc ..) (aE G.1)) (I k q (Bc ..) (aE G.2));subst this;obtain⟨B,E⟩:=ADD hP (fun k e j=>H k e (Au _ j)) (fun k e j=>I k e (Au _ j)) h;exact⟨by unfold fgB at B ⊢;rw[AI,AI,B],E⟩
   .obtain⟨J,h⟩:=py h;obtain⟨B,E⟩:=ADD hP (fun k e j=>H k e (Au _ j)) (fun k e j=>I k e (Au _ j)) h;exact⟨by unfold fgB at B ⊢;rw[AI,AI,B,J],E⟩
  .cases h
 | [],_::_,_,_,_,_,h=>by cases h
 |_::_,[],_,_,_,_,h=>by cases h
theorem ABj{α:Type}{k:Nat}{e:α}:∀{l:List (Nat×α)},(k,e)∈l->Zb k l=true
 |(j,x)::l,h=>by
  simp only[Zb];cases q:Nat.beq j k with
  |true=>rfl|false=>
   rcases Ar.1 h with h|h
   .cases h;rw[Lo]at q;cases q
   .exact ABj h
theorem Ou{α:Type}{k:Nat}{e:α}:∀{l:List (Nat×α)},jo l=true->(k,e)∈l->get l k=some e
 |(j,x)::l,q,h=>by
  simp only[jo,AE,BF]at q;simp only[get];rcases Ar.1 h with h|h
  .cases h;rw[Lo]
  .cases y:Nat.beq j k with
   |true=>rw[beq_true y,ABj h]at q;cases q.1
   |false=>exact Ou q.2 h
theorem AYj{S A B:St}{X:Option ρ}{r:ρ}(hA:BS S A)(hB:BS S B)(h:agS S.nv A B X=some r):A.fg R=B.fg R/\X=some r:=by
 obtain⟨E,h⟩:=RM h;simp only[AE]at E;obtain⟨⟨⟨J,L⟩,O⟩,Q⟩:=E;obtain⟨H,h⟩:=ADE (R:=R) (P:=fun k e=>get S.tm k=some e) (fun k e G h y=>by rw[h]at y;exact Option.some.inj y) (fun k e j q=>hA.tm k e (Ou J j) q) (fun k e j q=>hB.tm k e (Ou L j) q) h;obtain⟨I,h⟩:=ADD (R:=R) (P:=fun k e=>get S.bx k=some e) (fun k e G h y=>by rw[h]at y;exact Option.some.inj y) (fun k e j q=>hA.bx k e (Ou O j) q) (fun k e j q=>hB.bx k e (Ou Q j) q) h;exact⟨by simp only[St.fg,H,I,hA.pin,hB.pin],h⟩
theorem Xf:∀{x:Bt R} {S:St} {K:St->Option ρ} {r:ρ},evr x S K=some r ->
 ∃S',BS S S'/\K S'=some r/\∀N:Lv.St->Prop,N (S'.fg R)->runK Iv x.er (S.fg R) N
 |.nil,S,K,r,h=>⟨S,BS.refl _,h,fun N hN=>hN⟩|.dr ds x,S,K,r,h=>by
  obtain⟨S',q,j,y⟩:=Xf (x:=x) h;refine⟨S',(BS.Hj _ _).trans q,j,fun N hN=>?_⟩;have:=y N hN;rw[AA9]at this;exact this
 |.nl ns x,S,K,r,h=>by
  obtain⟨S',q,j,y⟩:=Xf (x:=x) h;refine⟨S',(BS.Py _ _).trans q,j,fun N hN=>?_⟩;have:=y N hN;rw[tO]at this;exact this
 |.both n a b,S,K,r,h=>by
  have h:evr a S (fun A=>evr b S fun B=>agS S.nv A B (K A))=some r:=by
   cases n with
   |zero=>exact h|succ n=>simpa only[evr,AGj] using h
  obtain⟨A,I,J,a3⟩:=Xf (x:=a) (K:=fun A=>evr b S fun B=>agS S.nv A B (K A)) h;obtain⟨B,L,O,Q⟩:=Xf (x:=b) (K:=fun B=>agS S.nv A B (K A)) J;obtain⟨e,j⟩:=AYj (R:=R) I L O;exact⟨A,I,j,fun N hN=>⟨a3 N hN,Q N (e▸hN)⟩⟩
 |.op i g sf o x,S,K,r,h=>by
  have safe:∀{S:St},(if I7 o S sf=true then ev o S fun S'=>S'.FP fun S'=>evr x S' K else none)=some r ->
   ∃S',BS S S'/\evr x S' K=some r/\∀N:Lv.St->Prop,N (S'.fg R)->(Lv.I7 o.er (S.fg R) sf=true/\opK Iv o.er (S.fg R) N):=by
   intro S h;split at h
   .rename_i hs;obtain⟨S',q,j,y⟩:=AJk h;rw[Ef]at j;exact⟨S',q,j,fun N hN=>⟨ACb hs,y N hN⟩⟩
   .cases h
  have key:∃S',BS S S'/\evr x S' K=some r/\∀N:Lv.St->Prop,N (S'.fg R)->∃b,Lv.wanted (S.fg R) g=some b/\((b=true/\Lv.I7 o.er (S.fg R) sf=true/\opK Iv o.er (S.fg R) N)\/(b=false/\∃S',Lv.LP o.er (S.fg R)=some S'/\N S')):=by
   simp only[evr,AZN]at h;split at h
   .obtain⟨S',q,j,y⟩:=safe h;exact⟨S',q,j,fun N hN=>⟨true,rfl,.inl ⟨rfl,y N hN⟩⟩⟩
   .rename_i s w;split at h
    .rename_i b v E;rcases AGn h with ⟨rfl,G⟩|⟨rfl,G⟩
     .refine R7 (K:=fun S'=>evr x S' K) (P:=fun S N=>Lv.I7 o.er S sf=true/\opK Iv o.er S N) E w (by cases w<;>rfl) (f:=if I7 o (S.lit s true) sf=true then ev o (S.lit s true) fun S'=>S'.FP fun S'=>evr x S' K else none) ?_ fun H=>safe H
      simpa only[Ef] using G
     .refine R7 (K:=fun S'=>evr x S' K) (P:=fun S N=>Lv.I7 o.er S sf=true/\opK Iv o.er S N) E (!w) (by cases w<;>rfl) (f:=if I7 o (S.lit s false) sf=true then ev o (S.lit s false) fun S'=>S'.FP fun S'=>evr x S' K else none) ?_ fun H=>safe H
      simpa only[Ef] using G
    .rename_i v E;simp only[Ef]at h;obtain⟨S',q,j,y⟩:=km (R:=R) h;exact⟨S',j,y,fun N hN=>⟨false,AC6 E,.inr ⟨rfl,_,q,hN⟩⟩⟩
    .cases h
  obtain⟨S1,q,j,y⟩:=key;obtain⟨S2,X,Y,Z⟩:=Xf (x:=x) j;exact⟨S2,q.trans X,Y,fun N hN=>y _ (Z N hN)⟩
end
end Y
end Lv
namespace Lv
open Go (IntKind BinOp UnOp)
namespace Y
section
variable{R:List GF}{ρ:Type}
theorem ATN{s:Option Src}{l:AR}{x:U}(h:ATM s l=some x):ATL s x=l:=by
 unfold ATM at h;split at h
 .cases h
 .cases h
 .cases h
 .rename_i j q y;cases h;cases s<;>cases x<;>first|rfl|(exact(j _ _ rfl).elim)|(exact(q rfl).elim)|(exact(y _ rfl).elim)
 .split at h
  .cases h;rfl
  .cases h
 .split at h
  .cases h;rfl
  .cases h
 .split at h
  .cases h
  .split at h
   .rename_i B;subst B;cases h;rfl
   .cases h
 .cases h
theorem oZ{s:Option Src}:∀{ls:List AR} {us:List U},tI s ls=some us->us.map (ATL s)=ls
 | [],us,h=>by cases h;rfl
 |l::ls,us,h=>by
  simp only[tI]at h;split at h
  .rename_i x xs j q;cases h;rw[AI,ATN j,oZ q]
  .cases h
theorem AYf{a:AL}{ls:List AR}{x:a.D}(h:a.un ls=some x):a.leaf x=ls:=by
 cases a with
 |val c s=>
  simp only[AL.un]at h;split at h
  .rename_i us q;simp only[AL.leaf];rw[Yb h,oZ q]
  .cases h
 |num k=>
  simp only[AL.un]at h;split at h
  .split at h
   .rename_i j;subst j;cases h;rfl
   .cases h
  .cases h
 |al r=>
  simp only[AL.un]at h;split at h
  .split at h
   .rename_i j;subst j;rfl
   .cases h
  .cases h
theorem vF:∀{as:List AL} {ls:List AR} {x:TA as},AXk as ls=some x->RV as x=ls
 | [],ls,x,h=>by
  cases ls with
  |nil=>rfl|cons l ls=>cases h
 | [a],ls,x,h=>AYf h|a::j::as,ls,x,h=>by
  simp only[AXk]at h;split at h
  .rename_i y z q B;cases h;show a.leaf y++RV (j::as) z=ls;rw[AYf q,vF B,Hh]
  .cases h
theorem Kj{b:Bool}{k:Nat}:∀{c:Cut} {ls:List AR},NK b k c=false->look b k (seg c ls)=none
 | [],ls,h=>rfl|(j,d,sh,as)::c,ls,h=>by
  simp only[NK]at h;simp only[seg,look];split at h
  .cases h
  .exact Kj h
theorem Xj{S:St}{k:Nat}:∀{c:Cut} {ls:List AR},Ph S c=some ls->NK false k c=true->∃e,get S.tm k=some e/\look false k (seg c ls)=some (e.sh,e.cs)
 | [],ls,h,j=>by cases j
 |(false,d,sh,as)::c,ls,h,j=>by
  simp only[Ph]at h;split at h
  .rename_i e ls' B y;split at h
   .rename_i q;cases h;simp only[NK]at j;simp only[seg,look];split at j
    .rename_i E;have H:d=k:=by simpa[PT] using E
     subst H;refine⟨e,B,?_⟩;rw[Cs q.2,Wr q.1]
    .rename_i E;rw[Cj q.2];exact Xj y j
   .cases h
  .cases h
 |(true,d,sh,as)::c,ls,h,j=>by
  simp only[Ph]at h;split at h
  .rename_i e ls' B y;split at h
   .rename_i q;cases h;have G:((true:Bool)==false)=false:=rfl;simp only[NK,G,Bj]at j;simp only[seg,look,G,Bj];rw[Cj q];exact Xj y j
   .cases h
  .cases h
theorem Xi{S:St}{k:Nat}:∀{c:Cut} {ls:List AR},Ph S c=some ls->NK true k c=true->∃e sh,get S.bx k=some e/\look true k (seg c ls)=some (sh,e.cs)
 | [],ls,h,j=>by cases j
 |(true,d,sh,as)::c,ls,h,j=>by
  simp only[Ph]at h;split at h
  .rename_i e ls' B y;split at h
   .rename_i q;cases h;simp only[NK]at j;simp only[seg,look];split at j
    .rename_i E;have H:d=k:=by simpa[PT] using E
     subst H;refine⟨e,sh,B,?_⟩;rw[Cs q]
    .rename_i E;rw[Cj q];exact Xi y j
   .cases h
  .cases h
 |(false,d,sh,as)::c,ls,h,j=>by
  simp only[Ph]at h;split at h
  .rename_i e ls' B y;split at h
   .rename_i q;cases h;have G:((false:Bool)==true)=false:=rfl;simp only[NK,G,Bj]at j;simp only[seg,look,G,Bj];rw[Cj q.2];exact Xi y j
   .cases h
  .cases h
theorem AKL{q:List (Bool×Nat×Sh×List AR)}{a:List (Nat×Ent)}{v:Nat}:∀{l:List (Nat×Ent)},(∀k e,(k,e)∈l->look false k q=some (e.sh,e.cs)\/(look false k q=none/\get a k=some e))->fgE R (kS q a v l)=fgE R l
 | [],_=>rfl|(k,e)::l,h=>by
  have y:=AKL (v:=v) (l:=l) (fun k e E=>h k e (Au _ E));simp only[fgE,kS,AI]at y ⊢;rw[y];rcases h k e (by simp) with j|⟨j,B⟩
  .rw[j];rfl
  .rw[j,B]
theorem AKK{q:List (Bool×Nat×Sh×List AR)}{a:List (Nat×Bx)}{v:Nat}:∀{l:List (Nat×Bx)},(∀k e,(k,e)∈l->(∃sh,look true k q=some (sh,e.cs))\/(look true k q=none/\get a k=some e))->fgB R (kR q a v l)=fgB R l
 | [],_=>rfl|(k,e)::l,h=>by
  have y:=AKK (v:=v) (l:=l) (fun k e E=>h k e (Au _ E));simp only[fgB,kR,AI]at y ⊢;rw[y];rcases h k e (by simp) with ⟨sh,j⟩|⟨j,B⟩
  .rw[j]
  .rw[j,B]
theorem YQ{α:Type}{k:Nat}{e:α}:∀{l:List (Nat×α)},(k,e)∈l->Zb k l=true
 |(j,x)::l,h=>by
  simp only[Zb];cases q:Nat.beq j k with
  |true=>rfl|false=>
   rcases Ar.1 h with h|h
   .cases h;exact(beq_false q rfl).elim
   .exact YQ h
theorem pR{c:Cut}{a:List (Nat×Ent)}:∀{l:List (Nat×Ent)} {k:Nat} {e:Ent},AKQ c a l=true->(k,e)∈l->get l k=some e/\(NK false k c=true\/(NK false k c=false/\∃y,get a k=some y/\e.ver=y.ver))
 |(j,x)::l,k,e,h,q=>by
  simp only[AKQ,AE,BF]at h;obtain⟨⟨E,G⟩,B⟩:=h;rcases Ar.1 q with q|q
  .grind[Prod.mk.injEq,get,Nat.beq,PT,NK,beq_true]
  .obtain⟨H,I⟩:=pR B q
   grind[get,Nat.beq,beq_true,YQ]
theorem pQ{c:Cut}{a:List (Nat×Bx)}:∀{l:List (Nat×Bx)} {k:Nat} {e:Bx},AKP c a l=true->(k,e)∈l->get l k=some e/\(NK true k c=true\/(NK true k c=false/\∃y,get a k=some y/\e.ver=y.ver))
 |(j,x)::l,k,e,h,q=>by
  simp only[AKP,AE,BF]at h;obtain⟨⟨E,G⟩,B⟩:=h;rcases Ar.1 q with q|q
  .grind[Prod.mk.injEq,get,Nat.beq,PT,NK,beq_true]
  .obtain⟨H,I⟩:=pQ B q
   grind[get,Nat.beq,beq_true,YQ]
theorem AN9{a b:Nat}(h:Nat.blt a b=true):a<b:=Nat.le_of_ble_eq_true h
theorem AKd{v:Nat}:∀{l:List (Nat×Ent)} {k:Nat} {e:Ent},wfE v l=true->get l k=some e->e.ver<v
 |(j,x)::l,k,e,h,q=>by
  simp only[wfE,AE]at h;simp only[get]at q;split at q
  .cases q;exact AN9 h.1
  .exact AKd h.2 q
theorem AKc{v:Nat}:∀{l:List (Nat×Bx)} {k:Nat} {e:Bx},wfB v l=true->get l k=some e->e.ver<v
 |(j,x)::l,k,e,h,q=>by
  simp only[wfB,AE]at h;simp only[get]at q;split at q
  .cases q;exact AN9 h.1
  .exact AKc h.2 q
structure EZ(c:Cut)(S S':St):Prop where
 tm:∀k e,NK false k c=false->get S'.tm k=some e->e.ver<S.nv->get S.tm k=some e
 bx:∀k e,NK true k c=false->get S'.bx k=some e->e.ver<S.nv->get S.bx k=some e
 pin:S'.pin=S.pin
theorem EZ.of{c:Cut}{S S':St}(h:BS S S'):EZ c S S':=⟨fun k e _=>h.tm k e,fun k e _=>h.bx k e,h.pin⟩
theorem qy{c:Cut}{S S':St}{x:TA c.as}(h:c.fit S S'=some x)(H:EZ c S S') :
 (c.st S S' x).fg R=S'.fg R /\
 (∀k e,(k,e)∈S'.tm->look false k (seg c (RV c.as x))=some (e.sh,e.cs)\/(look false k (seg c (RV c.as x))=none/\get S.tm k=some e)) /\
 (∀k e,(k,e)∈S'.bx->(∃sh,look true k (seg c (RV c.as x))=some (sh,e.cs))\/(look true k (seg c (RV c.as x))=none/\get S.bx k=some e)):=by
 unfold Cut.fit at h;split at h
 .rename_i Q;obtain⟨w1,Y,s1,X⟩:=Q;split at h
  .rename_i ls J;rw[vF h];have hE:∀k e,(k,e)∈S'.tm->look false k (seg c ls)=some (e.sh,e.cs)\/(look false k (seg c ls)=none/\get S.tm k=some e):=by
    intro k e I;obtain⟨q,j⟩:=pR s1 I;rcases j with j|⟨j,L,B,E⟩
    .obtain⟨O,y,G⟩:=Xj J j;rw[q]at y;cases y;exact .inl G
    .exact .inr ⟨Kj j,H.tm k e j q (by rw[E];exact AKd w1 B)⟩
   have hB:∀k e,(k,e)∈S'.bx->(∃sh,look true k (seg c ls)=some (sh,e.cs))\/(look true k (seg c ls)=none/\get S.bx k=some e):=by
    intro k e I;obtain⟨q,j⟩:=pQ X I;rcases j with j|⟨j,L,B,E⟩
    .obtain⟨O,sh,y,G⟩:=Xi J j;rw[q]at y;cases y;exact .inl ⟨sh,G⟩
    .exact .inr ⟨Kj j,H.bx k e j q (by rw[E];exact AKc Y B)⟩
   refine⟨?_,hE,hB⟩;simp only[St.fg,Cut.st,vF h];rw[AKL hE,AKK hB,H.pin]
  .cases h
 .cases h
theorem pK{q:List (Bool×Nat×Sh×List AR)}{a:List (Nat×Ent)}{v:Nat}:∀{l l':List (Nat×Ent)},ND l l'=true->(∀k e,(k,e)∈l'->look false k q=some (e.sh,e.cs)\/(look false k q=none/\get a k=some e))->kS q a v l=kS q a v l'
 | [],[],_,_=>rfl| [],_::_,h,_=>by cases h
 |_::_,[],h,_=>by cases h
 |(k,e)::l,(I,G)::l',h,B=>by
  simp only[ND,AE]at h;obtain⟨j,y⟩:=h;have:=beq_true j;subst this;have H:=pK (v:=v) y (fun k e E=>B k e (Au _ E))
  grind[kS]
theorem pJ{q:List (Bool×Nat×Sh×List AR)}{a:List (Nat×Bx)}{v:Nat}:∀{l l':List (Nat×Bx)},ND l l'=true->(∀k e,(k,e)∈l'->(∃sh,look true k q=some (sh,e.cs))\/(look true k q=none/\get a k=some e))->kR q a v l=kR q a v l'
 | [],[],_,_=>rfl| [],_::_,h,_=>by cases h
 |_::_,[],h,_=>by cases h
 |(k,e)::l,(I,G)::l',h,B=>by
  simp only[ND,AE]at h;obtain⟨j,y⟩:=h;have:=beq_true j;subst this;have H:=pJ (v:=v) y (fun k e E=>B k e (Au _ E))
  grind[kR]
theorem ik{q:List (Bool×Nat×Sh×List AR)}{a:List (Nat×Ent)}{v k:Nat}(G:look false k q=none):∀{l:List (Nat×Ent)} {y:Ent},get (kS q a v l) k=some y->∃e,get l k=some e/\y=(match get a k with|some B=>B|none=>e)
 |(j,x)::l,y,h=>by
  simp only[kS,get]at h ⊢;cases E:Nat.beq j k with
  |true=>
   grind[beq_true,Option.some.inj]
  |false=>rw[E]at h;exact ik G h
theorem ij{q:List (Bool×Nat×Sh×List AR)}{a:List (Nat×Bx)}{v k:Nat}(G:look true k q=none):∀{l:List (Nat×Bx)} {y:Bx},get (kR q a v l) k=some y->∃e,get l k=some e/\y=(match get a k with|some B=>B|none=>e)
 |(j,x)::l,y,h=>by
  simp only[kR,get]at h ⊢;cases E:Nat.beq j k with
  |true=>
   grind[beq_true,Option.some.inj]
  |false=>rw[E]at h;exact ij G h
theorem EZ.round{c:Cut}{S S':St}{x:TA c.as}(h:BS (c.st S S x) S'):EZ c S S':=by
 refine⟨fun k e G E j=>?_,fun k e G E j=>?_,h.pin⟩
 .have q:=h.tm k e E (Iw j);obtain⟨H,y,B⟩:=ik (Kj G) q
  grind
 .have q:=h.bx k e E (Iw j);obtain⟨H,y,B⟩:=ij (Kj G) q;rw[y]at B;subst B;exact y
theorem oF{c:Cut}{S S':St}{y:TA c.as}(h:c.fit S S'=some y)(j:EZ c S S')(q:ND S.tm S'.tm=true)(B:ND S.bx S'.bx=true):(c.st S S y).fg R=S'.fg R:=by
 obtain⟨E,G,H⟩:=qy (R:=R) h j
 grind[St.fg,Cut.st,pK,pJ]
theorem YT{b:Bool}{k:Nat}:∀{c:Cut} {ls:List AR},NK b k c=true->∃p,look b k (seg c ls)=some p
 |(j,d,sh,as)::c,ls,h=>by
  simp only[NK]at h;simp only[seg,look];split at h
  .exact⟨_,rfl⟩
  .exact YT h
theorem ACT{q:List (Bool×Nat×Sh×List AR)}{a:List (Nat×Ent)}{v k:Nat}{p:Sh×List AR}(E:look false k q=some p):∀{l:List (Nat×Ent)} {y:Ent},get (kS q a v l) k=some y->v<=y.ver
 |(j,z)::l,y,h=>by
  simp only[kS,get]at h;cases B:Nat.beq j k with
  |true=>
   grind[beq_true]
  |false=>rw[B]at h;exact ACT E h
theorem ACS{q:List (Bool×Nat×Sh×List AR)}{a:List (Nat×Bx)}{v k:Nat}{p:Sh×List AR}(E:look true k q=some p):∀{l:List (Nat×Bx)} {y:Bx},get (kR q a v l) k=some y->v<=y.ver
 |(j,z)::l,y,h=>by
  simp only[kR,get]at h;cases B:Nat.beq j k with
  |true=>
   grind[beq_true]
  |false=>rw[B]at h;exact ACS E h
theorem BS.st{c:Cut}{S S':St}{x:TA c.as}(I:BS S S'):BS S (c.st S S' x):=by
 refine⟨by simp[Cut.st],fun k e B E=>?_,fun k e B E=>?_,rfl⟩
 .cases j:NK false k c with
  |false=>
   obtain⟨J,G,q⟩:=ik (Kj j) B;cases y:get S.tm k with
   |some L=>rw[y]at q;subst q;rfl|none=>
    rw[y]at q;subst q;have:=I.tm k _ G E;rw[y]at this;cases this
  |true=>
   obtain⟨p,H⟩:=YT (ls:=RV c.as x) j;exact absurd E (NQ.2 (ACT H B))
 .cases j:NK true k c with
  |false=>
   obtain⟨J,G,q⟩:=ij (Kj j) B;cases y:get S.bx k with
   |some L=>rw[y]at q;subst q;rfl|none=>
    rw[y]at q;subst q;have:=I.bx k _ G E;rw[y]at this;cases this
  |true=>
   obtain⟨p,H⟩:=YT (ls:=RV c.as x) j;exact absurd E (NQ.2 (ACS H B))
theorem D2:∀{x:GI R} {S:St} {K:Ex->St->Option ρ} {r:ρ} {Q:Ex->Lv.St->Prop},G1 x S K=some r->(∀e S',BS S S'->K e S'=some r->Q e (S'.fg R))->wp Iv x.er (S.fg R) Q
 |.skip,S,K,r,Q,h,hQ=>hQ _ _ (BS.refl _) h|.region ops E1,S,K,r,Q,h,hQ=>by
  obtain⟨S',O,E,H⟩:=APC (show evs ops S _=some r from h);rw[Ef]at E;refine H _ ⟨S'.clo 6 (S'.pin++E1),?_⟩;rw[<-UZ];exact hQ _ _ (O.trans (BS.clean _ _)) E
 |.Ta x E1,S,K,r,Q,h,hQ=>by
  obtain⟨S',O,E,H⟩:=Xf (show evr x S _=some r from h);rw[Ef]at E;refine H _ ⟨S'.clo 6 (S'.pin++E1),?_⟩;rw[<-UZ];exact hQ _ _ (O.trans (BS.clean _ _)) E
 |.seq a b,S,K,r,Q,h,hQ=>by
  refine D2 (x:=a) (show G1 a S _=some r from h) fun e S' q j=>?_
  cases e with
  |n=>exact D2 (x:=b) j fun e S2 B E=>hQ _ _ (q.trans B) E|x i=>exact hQ _ _ q j|r=>exact hQ _ _ q j
 |.join c a b,S,K,r,Q,h,hQ=>by
  refine D2 (x:=a) (show G1 a S _=some r from h) fun e S' q j=>?_
  cases e with
  |n=>
   dsimp only at j ⊢;split at j
   .rename_i x hx;have j:(c.st S S' x).FP (fun S=>G1 b S K)=some r:=by rw[<-ATE (fun x=>(c.st S S' x).FP fun S=>G1 b S K) x];exact j
    rw[Ef]at j;obtain⟨H,_,_⟩:=qy (R:=R) hx (EZ.of q);rw[<-H];refine D2 (x:=b) j fun e S2 B E=>hQ _ _ ?_ E
    exact(BS.st q).trans B
   .cases j
  |x i=>exact hQ _ _ q j|r=>exact hQ _ _ q j
 |.cond c kt ke t e,S,K,r,Q,h,hQ=>by
  simp only[G1]at h;split at h
  .rename_i b hb;have X:=Nf (R:=R) hb;simp only[YO.er,U.fg]at X;rcases AGn h with ⟨rfl,j⟩|⟨rfl,j⟩
   .rw[Ef]at j;refine⟨true,X,S.clo 6 (S.pin++kt),?_⟩;rw[AW rfl,<-UZ];exact D2 (x:=t) j fun e S2 B E=>hQ _ _ ((BS.clean _ _).trans B) E
   .rw[Ef]at j;refine⟨false,X,S.clo 6 (S.pin++ke),?_⟩;rw[AT (by simp),<-UZ];exact D2 (x:=e) j fun e S2 B E=>hQ _ _ ((BS.clean _ _).trans B) E
  .cases h
 |.block id b,S,K,r,Q,h,hQ=>by
  refine D2 (x:=b) (show G1 b S _=some r from h) fun e S' q j=>?_
  cases e with
  |n=>exact hQ _ _ q j|x i=>
   dsimp only at j ⊢;split at j
   .rename_i hi;rw[AW hi];exact hQ _ _ q j
   .rename_i hi;rw[AT hi];exact hQ _ _ q j
  |r=>exact hQ _ _ q j
 |.loop c b,S,K,r,Q,h,hQ=>by
  simp only[G1]at h;split at h
  .rename_i x0 J;have key:∀(n:Nat) (x:TA c.as),A3 (fun L x=>(c.st S S x).FP fun S1=>G1 b S1 fun e S'=>match e with
    |.n=>if ND S.tm S'.tm=true/\ND S.bx S'.bx=true then (match c.fit S S' with|some y=>L y|none=>none) else none
    |.x i=>K (.x i) S'|.r=>K .r S') n x=some r->AJ1 (wp Iv b.er) n ((c.st S S x).fg R) Q:=by
    intro n
    induction n with
    |zero=>intro x h;rw[AJ2]at h;cases h
    |succ n Z=>
     intro x h;rw[Dv]at h;rw[Ef]at h;refine D2 (x:=b) h fun e S' q j=>?_
     have hS:BS S (c.st S S x):=BS.st (BS.refl S);cases e with
     |n=>
      dsimp only at j ⊢;split at j
      .rename_i G;split at j
       .rename_i y Y;rw[<-oF Y (EZ.round q) G.1 G.2];exact Z y j
       .cases j
      .cases j
     |x i=>exact hQ _ _ (hS.trans q) j|r=>exact hQ _ _ (hS.trans q) j
   refine⟨big,?_⟩;obtain⟨H,_,_⟩:=qy (R:=R) J (EZ.of (BS.refl S));rw[<-H];exact key big x0 h
  .cases h
 |.exit id,S,K,r,Q,h,hQ=>hQ _ _ (BS.refl _) h|.ret,S,K,r,Q,h,hQ=>hQ _ _ (BS.refl _) h|.scope b,S,K,r,Q,h,hQ=>D2 (x:=b) (show G1 b S K=some r from h) hQ|.or a b,S,K,r,Q,h,hQ=>(AZm (show orX (G1 a S K) (G1 b S K)=some r from h)).elim (fun h=>.inl (D2 (x:=a) h hQ)) fun h=>.inr (D2 (x:=b) h hQ)|.dead,S,K,r,Q,h,hQ=>by cases h
 |.AXH c b,S00,K,r,Q,h,hQ=>by
  refine⟨big+1,?_⟩;refine D2 (x:=b) (show G1 b S00 _=some r from h) fun e S I h=>?_
  cases e with
  |n=>
   dsimp only at h ⊢;split at h
   .rename_i x0 J;have key:∀(n:Nat) (x:TA c.as),A3 (fun L x=>(c.st S S x).FP fun S1=>G1 b S1 fun e S'=>match e with
     |.n=>if ND S.tm S'.tm=true/\ND S.bx S'.bx=true then (match c.fit S S' with|some y=>L y|none=>none) else none
     |.x i=>K (.x i) S'|.r=>K .r S') n x=some r->AJ1 (wp Iv b.er) n ((c.st S S x).fg R) Q:=by
     intro n
     induction n with
     |zero=>intro x h;rw[AJ2]at h;cases h
     |succ n Z=>
      intro x h;rw[Dv]at h;rw[Ef]at h;refine D2 (x:=b) h fun e S' q j=>?_
      have hS:BS S (c.st S S x):=BS.st (BS.refl S);cases e with
      |n=>
       dsimp only at j ⊢;split at j
       .rename_i G;split at j
        .rename_i y Y;rw[<-oF Y (EZ.round q) G.1 G.2];exact Z y j
        .cases j
       .cases j
      |x i=>exact hQ _ _ (I.trans (hS.trans q)) j|r=>exact hQ _ _ (I.trans (hS.trans q)) j
    obtain⟨H,_,_⟩:=qy (R:=R) J (EZ.of (BS.refl S));rw[<-H];exact key big x0 h
   .cases h
  |x i=>exact hQ _ _ I h|r=>exact hQ _ _ I h
end
end Y
end Lv
namespace Lv
open Go (IntKind BinOp UnOp)
namespace Y
section
variable{R:List GF}{ρ:Type}
def AaZ:C->Bool|.st _=>true|.un _=>true|_=>false
def vz:List (Bool×C)->Bool| []=>true|(true,_)::r=>vz r|(false,c)::r=>(!AaZ c&&decide (c≠.m))&&vz r
def ACB:List PK->Bool| []=>true|.f _ l::r=>vz l&&ACB r|_::r=>ACB r
theorem qN(i:Nat):∀(l:List (Bool×C)) (x:po l),vz l=true->Lv.No i (Qh l x)=some ((No i l x).map Cap.fg)
 | [],x,h=>rfl|(true,c)::l,x,h=>by
  have j:=qN i l x.2 h;simp only[Qh,Lv.No,No,AI,Cap.fg];rw[j,Ez];rfl
 |(false,c)::l,x,h=>by
  simp only[vz,AE,BF,decide_eq_true_eq]at h;have j:=qN i l x.2 h.2;cases c with
  |st n=>cases h.1.1
  |un n=>cases h.1.1
  |m=>exact(h.1.2 rfl).elim|_=>
   simp only[Qh,enc,Lv.No,No,cells,AI,j];rfl
theorem AVK(c:C)(x:c.D):Fk (shC c) (enc c x).length=true:=by
 rw[NU];cases c<;>rfl
theorem M4:∀(ks:List PK) (i:Nat) (fs:List Nat) (a:A ks) (S:St),ACB ks=true->fs.map (fun n=>(R[n]?).map GF.x)=(fX ks).map some ->
 Lv.initK i (ks.map PK.md) (aVs ks a) (S.fg R)=some ((initK i fs ks a S).fg R)
 | [],i,fs,a,S,_,_=>rfl|k::ks,i,fs,a,S,B,y=>by
  obtain⟨j,E⟩:=a;cases k with
  |v c=>
   have hE:enc c j=(cells c j).map U.fg:=Ez c j;have q:=M4 ks (i+1) fs E (S.JM i (shC c) ((cells c j).map (D4 i))) B y;rw[K2,Oo,<-hE]at q;exact q
  |p c=>
   have hE:enc c j=(cells c j).map U.fg:=Ez c j;have q:=M4 ks (i+1) fs E (S.JM i .one [.vp (.old i) (cells c j)]) B y;rw[K2]at q;simp only[AI,BV,AR.fg]at q;rw[<-hE]at q;exact q
  |b c=>
   have hE:enc c j=(cells c j).map U.fg:=Ez c j;have q:=M4 ks (i+1) fs E (let S1:=(S.JM i .one [.bp i 0]).NN i ((cells c j).map (D4 i));⟨S1.tm,S1.bx,i::S1.pin,S1.nv⟩) B y;have e:(let S1:=(S.JM i .one [.bp i 0]).NN i ((cells c j).map (D4 i));(⟨S1.tm,S1.bx,i::S1.pin,S1.nv⟩:St)).fg R={ S.fg R with tm:=Lv.put (S.fg R).tm i ⟨.one,[.bp i 0]⟩,bx:=Lv.put (S.fg R).bx i ((enc c j).map (Lv.D4 i)),pin:=i::(S.fg R).pin}:=by
    have G:=SX (R:=R) (S.JM i .one [.bp i 0]) i ((cells c j).map (D4 i));rw[K2,Oo,<-hE]at G;have H:=congrArg Lv.St.tm G;have I:=congrArg Lv.St.bx G;simp only[St.fg]at H I ⊢;rw[H,I];rfl
   rw[e]at q;exact q
  |o c=>
   have hE:enc c j=(cells c j).map U.fg:=Ez c j;have q:=M4 ks (i+1) fs E (S.JM i (shC c) ((cells c j).map I6)) B y;rw[K2,YW,<-hE]at q;exact q
  |m c=>
   have hE:enc c j=(cells c j).map U.fg:=Ez c j;have q:=M4 ks (i+1) fs E (let S1:=S.JM i (shC c) ((cells c j).map I6);⟨S1.tm,S1.bx,i::S1.pin,S1.nv⟩) B y;have e:(let S1:=S.JM i (shC c) ((cells c j).map I6);(⟨S1.tm,S1.bx,i::S1.pin,S1.nv⟩:St)).fg R={ S.fg R with tm:=Lv.put (S.fg R).tm i ⟨shC c,(enc c j).map Lv.I6⟩,pin:=i::(S.fg R).pin}:=by
    have G:=K2 (R:=R) S i (shC c) ((cells c j).map I6);rw[YW,<-hE]at G;have H:=congrArg Lv.St.tm G;simp only[St.fg]at H ⊢;rw[H];rfl
   rw[e]at q;have O:Fk (shC c) (enc c j).length=true:=AVK c j;show (if Fk (shC c) (enc c j).length=true then _ else none)=_;rw[AW O];exact q
  |f x l=>
   simp only[ACB,AE]at B;cases fs with
   |nil=>simp[fX]at y|cons n fs=>
    simp only[fX,AI,Cb]at y;have Q:xr R n=x:=by
     unfold xr;cases J:R[n]? with
     |none=>rw[J]at y;simp at y|some g=>rw[J]at y;simpa using y.1
    have q:=M4 ks (i+1) fs E (S.JM i .one [.fn n (No i l j)]) B.2 y.2;rw[K2]at q;have L:Lv.No i (Qh l j)=some ((No i l j).map Cap.fg):=qN i l j B.1;show (match Lv.No i (Qh l j) with|some ls=>Lv.initK (i+1) _ _ _|none=>none)=_;rw[L];simp only[AI,BV,AR.fg,Q]at q;exact q
theorem MN:∀{rs:List HM} {S:St} {K:List (Option Nat)->List AR->Option ρ} {r:ρ},LO rs S K=some r->∃ns ls,Lv.LO rs (S.fg R)=some (ns,ls.map (AR.fg R))/\K ns ls=some r
 | [],S,K,r,h=>⟨[],[],rfl,h⟩|.tmp t::rs,S,K,r,h=>by
  simp only[LO]at h;split at h
  .rename_i e y;split at h
   .rename_i E;obtain⟨ns,ls,j,q⟩:=MN h;refine⟨_,_,?_,q⟩;have:=KT (R:=R) y;simp only[YO.er]at this;simp only[Lv.LO,this,j,En.fg,Aj,E,if_true,Db];rfl
   .cases h
  .cases h
 |.cell t n::rs,S,K,r,h=>by
  simp only[LO]at h;split at h
  .rename_i id o y;obtain⟨ls',j,h⟩:=Pu (R:=R) h;obtain⟨ns,ls,q,B⟩:=MN h;refine⟨_,_,?_,B⟩;have:=Ej (R:=R) y;simp only[YO.er,AR.fg]at this j;simp only[Lv.LO,this,j,q,Db]
  .cases h
 |.bx _::rs,S,K,r,h=>by cases h
 |.vw _ _::rs,S,K,r,h=>by cases h
 |.un _ _::rs,S,K,r,h=>by cases h
theorem oz:∀{ls:List AR},M6 ls=true->Lv.M6 (ls.map (AR.fg R))=true
 | [],_=>rfl|l::ls,h=>by
  simp only[M6,AE]at h;simp only[AI,Lv.M6,AE];refine⟨?_,oz h.2⟩;have j:=h.1
  grind[AR.fg,jT]
theorem AXV{rk:RK}{rs:List HM}{S:St}{K:St->List U->Option ρ}{r:ρ}(h:Z6 rk rs S K=some r):∃S' us,Lv.Z6 rs (S.fg R)=some (S'.fg R,rk.sh,us.map U.fg)/\K S' us=some r:=by
 unfold Z6 at h;split at h
 .rename_i k c t;split at h
  .rename_i id y;have j:=Ej (R:=R) y;simp only[YO.er,AR.fg]at j;split at h
   .rename_i ls Y;split at h
    .cases h
    .rename_i L;split at h
     .rename_i E;split at h
      .rename_i us G;subst E;refine⟨S,us,?_,h⟩;have O:id∉(S.fg R).pin:=fun X=>L (mem_iff.2 X)
       simp only[Lv.Z6,j,Od,Y,Ap,M5,OG G];rw[AT O];rfl
      .cases h
     .cases h
   .cases h
  .cases h
 .rename_i k c t k';split at h
  .rename_i E;subst E;split at h
   .rename_i k'' c' xs y;have j:=Ej (R:=R) y;simp only[YO.er,AR.fg]at j;split at h
    .rename_i E;subst E;exact⟨S,_,by simp only[Lv.Z6,j,if_true];rfl,h⟩
    .cases h
   .rename_i q sub y;have j:=Ej (R:=R) y;simp only[YO.er,AR.fg]at j;split at h
    .rename_i x Z;refine⟨_,_,?_,h⟩;simp only[Lv.Z6,j,Iy,Z,Ap,AR.fg,T7,AI,BV,Wz];rfl
    .cases h
   .cases h
  .cases h
 .rename_i n c cs t n' r' rs;split at h
  .rename_i J;subst J;split at h
   .rename_i id o y;have B:=Ej (R:=R) y;obtain⟨ls',Q,h⟩:=Pu (R:=R) h;simp only[YO.er,AR.fg]at B Q;split at h
    .rename_i L;obtain⟨ns,ls,j,h⟩:=MN (R:=R) h;split at h
     .rename_i I;split at h
      .rename_i S' us G;obtain⟨H,_⟩:=K1 (R:=R) G;refine⟨S',_,?_,h⟩;simp only[Lv.Z6,B,Q];rw[AW (oz L),j];dsimp only;rw[H,I];simp only[Db,GN];rfl
      .cases h
     .cases h
    .cases h
   .cases h
  .cases h
 .rename_i cs;obtain⟨ns,ls,j,h⟩:=MN (R:=R) h;split at h
  .rename_i I;split at h
   .rename_i S' us G;obtain⟨H,_⟩:=K1 (R:=R) G;refine⟨S',us,?_,h⟩;have:Lv.Z6 rs (S.fg R)=match Lv.LO rs (S.fg R) with
     |some (ns,ls)=>(match Lv.DW (S.fg R) ls with|some (S',cs)=>some (S',ACi ns,cs)|none=>none)
     |none=>none:=by
     rcases rs with _|⟨a,_|⟨b,rs⟩⟩
     .rfl
     .cases a<;>first|rfl|(simp[Lv.LO]at j)
     .cases a<;>first|rfl|(simp[Lv.LO]at j)
    rw[this,j];dsimp only;rw[H,I];rfl
   .cases h
  .cases h
 .cases h
theorem AZo{l:AR}{u:U}(h:owT l=some u):Lv.owT (AR.fg R l)=some u.fg:=by
 cases l with
 |ow x=>cases h;rfl
 |t x=>
  grind[owT,AR.fg,Lv.owT,jT]
 |_=>cases h
theorem AJ9:∀{ls:List AR} {us:List U},Z5 ls=some us->Lv.Z5 (ls.map (AR.fg R))=some (us.map U.fg)/\us.length=ls.length
 | [],us,h=>by cases h;exact⟨rfl,rfl⟩
 |l::ls,us,h=>by
  simp only[Z5]at h;split at h
  .rename_i x xs j q;cases h;obtain⟨y,B⟩:=AJ9 q;simp only[AI,Lv.Z5,AZo j,y,AJ,B];exact⟨trivial,trivial⟩
  .cases h
theorem aw{k:Nat}:∀{ls:List AR} {us:List U},FH k ls=some us->us.length=ls.length
 | [],us,h=>by cases h;rfl
 |l::ls,us,h=>by
  simp only[FH]at h;split at h
  .rename_i x xs q j;cases h;simp only[AJ,aw j]
  .cases h
def chunks:List C->List U->List (List U)| [],_=>[]|c::cs,us=>us.take c.size::chunks cs (us.drop c.size)
theorem bE:∀(cs:List C) (us:List U),(chunks cs us).length=cs.length| [],_=>rfl|c::cs,us=>by simp only[chunks,AJ,bE cs]
theorem Y3:∀(cs:List C) (us:List U),us.length=TG cs->(chunks cs us).flatten=us
 | [],us,h=>by cases us with|nil=>rfl|cons u us=>cases h
 |c::cs,us,h=>by
  simp only[TG]at h;simp only[chunks,List.flatten_cons];rw[Y3 cs _ (by rw[BX];omega),Hh]
theorem bD:∀(cs j:List C) (us os:List U),us.length=TG cs->chunks (cs++j) (us++os)=chunks cs us++chunks j os
 | [],j,us,os,h=>by cases us with|nil=>rfl|cons u us=>cases h
 |c::cs,j,us,os,h=>by
  simp only[TG]at h;simp only[List.cons_append,chunks];rw[List.take_append_of_le_length (by omega),List.drop_append_of_le_length (by omega),bD cs j _ os (by rw[BX];omega)]
theorem ju:∀{cs:List C} {us:List U} {x:Tu cs},ofT cs us=some x->PZ cs x=(chunks cs us).map (List.map U.fg)
 | [],us,x,h=>rfl| [c],us,x,h=>by
  have j:ofC c us=some x:=h;show [enc c x]=_;rw[H0 j];simp only[chunks,AI,BV];rw[List.take_of_length_le (by rw[AW9 j];exact Af _)]
 |c::q::cs,us,x,h=>by
  simp only[ofT]at h;split at h
  .rename_i a b y B;cases h;show enc c a::PZ (q::cs) b=_;rw[H0 y,ju B];rfl
  .cases h
theorem Kq{S:St}:∀{ks:List PK} {i:Nat} {os:List U},Ep i ks S=some os->Lv.Ep i (ks.map PK.md) (S.fg R)=some ((chunks (Kn ks) os).map (List.map U.fg))/\os.length=TG (Kn ks)
 | [],i,os,h=>by cases h;exact⟨rfl,rfl⟩
 |.b c::ks,i,os,h=>by
  simp only[Ep]at h;split at h
  .rename_i ls J B E;obtain⟨G,H⟩:=Kq (ks:=ks) E;split at h
   .rename_i q;split at h
    .rename_i us y;cases h;have j:us.length=c.size:=by rw[aw y,q.2]
     have I:i∈(S.fg R).pin:=mem_iff.1 q.1;refine⟨?_,by simp only[AP,Kn,TG,j,H]⟩;simp only[AI,PK.md,Lv.Ep,Od,B,Ap,G,Kn,chunks];rw[AW I,OG y,Cs j,Cj j];rfl
    .cases h
   .cases h
  .cases h
 |.m c::ks,i,os,h=>by
  simp only[Ep]at h;split at h
  .rename_i e J B E;obtain⟨G,H⟩:=Kq (ks:=ks) E;split at h
   .rename_i q;split at h
    .rename_i us y;cases h;obtain⟨L,O⟩:=AJ9 (R:=R) y;have j:us.length=c.size:=by rw[O,q.2.2]
     have I:i∈(S.fg R).pin:=mem_iff.1 q.1;refine⟨?_,by simp only[AP,Kn,TG,j,H]⟩;simp only[AI,PK.md,Lv.Ep,V3,B,Ap,G,Kn,chunks,Ent.fg,Aj];rw[AW ⟨I,q.2.1⟩,L,Cs j,Cj j];rfl
    .cases h
   .cases h
  .cases h
 |.v c::ks,i,os,h=>Kq (ks:=ks) h|.p c::ks,i,os,h=>Kq (ks:=ks) h|.o c::ks,i,os,h=>Kq (ks:=ks) h|.f x l::ks,i,os,h=>Kq (ks:=ks) h
theorem ABC:∀(cs:List C) (x:Tu cs),(PZ cs x).map List.length=cs.map C.size
 | [],x=>rfl| [c],x=>congrArg (fun n=>[n]) (NU c x)|c::j::cs,x=>by
  obtain⟨a,b⟩:=x;show (enc c a).length::(PZ (j::cs) b).map List.length=_;rw[ABC (j::cs) b,NU];rfl
theorem Ko:∀(ks:List PK) (a:A ks) (os:List (List T)),os.map List.length=(Kn ks).map C.size->Lv.F7 (ks.map PK.md) (aVs ks a) os=true
 | [],a,[],h=>rfl| [],a,o::os,h=>by cases h
 |.b c::ks,a,[],h=>by cases h
 |.b c::ks,a,o::os,h=>by
  obtain⟨j,q⟩:=a;simp only[Kn,AI,Cb]at h;have y:(enc c j).length=c.size:=NU c j;show (o.length==(enc c j).length&&Lv.F7 (ks.map PK.md) (aVs ks q) os)=true;rw[y,h.1,Ko ks q os h.2];simp
 |.m c::ks,a,[],h=>by cases h
 |.m c::ks,a,o::os,h=>by
  simp only[Kn,AI,Cb]at h;exact Ko ks a.2 os h.2
 |.v c::ks,a,os,h=>Ko ks a.2 os h|.p c::ks,a,os,h=>Ko ks a.2 os h|.o c::ks,a,os,h=>Ko ks a.2 os h|.f x l::ks,a,os,h=>Ko ks a.2 os h
end
def YF.er(f:YF):CD:=.mk (f.ps.map PK.md) f.rs f.body.er
theorem ADc{f:YF}{S:St}{r:Tu (f.rk.cs++Kn f.ps)}(h:fin f.ps f.rk f.rs S=some r) :
 Lv.fin (f.ps.map PK.md) f.rs (S.fg f.R) f.rk.sh ((PZ _ r).take f.rk.cs.length).flatten ((PZ _ r).drop f.rk.cs.length):=by
 unfold fin at h;obtain⟨S',us,B,h⟩:=AXV (R:=f.R) h;split at h
 .rename_i os G;split at h
  .rename_i y;obtain⟨E,H⟩:=Kq (R:=f.R) G;have q:=ju h;rw[bD _ _ _ _ y,Db]at q;have j:((chunks f.rk.cs us).map (List.map U.fg)).length=f.rk.cs.length:=by rw[Aj,bE]
   rw[q,Cs j,Cj j];refine⟨S'.fg f.R,?_,E⟩;rw[B,<-JR,Y3 _ _ y]
  .cases h
 .cases h
theorem YF.sound{f:YF}(q:ACB f.ps=true)(j:f.fs.map (fun n=>(f.R[n]?).map GF.x)=(fX f.ps).map some){a:A f.ps}{r:Tu (f.rk.cs++Kn f.ps)}(h:f.run a=some r) :
 Iv f.er (aVs f.ps a) f.rk.sh ((PZ _ r).take f.rk.cs.length).flatten ((PZ _ r).drop f.rk.cs.length):=by
 unfold YF.run at h;rw[Ef]at h;refine .intro ⟨_,M4 (R:=f.R) f.ps 0 f.fs a ⟨[],[],[],0⟩ q j,?_,?_⟩
 .grind[D2,ADc]
 grind[Ko,ABC,Kn,List.map_drop,List.drop_left',List.length_map]
def YF.gf(f:YF)(hp:ACB f.ps=true)(hf:f.fs.map (fun n=>(f.R[n]?).map GF.x)=(fX f.ps).map some)(d:A f.ps->Option (Tu (f.rk.cs++Kn f.ps)))(hd:∀a,f.run a=d a):GF:=
 ⟨f.er,f.ps,f.rk,d,rfl,fun a r h=>YF.sound hp hf ((hd a).trans h)⟩
end Y
end Lv
namespace Lv
open Y
open Go
def ln(c:C)(xs:List c.D)(i:Int)(ys:List c.D):Option (List c.D):=
 if 0<=i/\i.toNat<=xs.length/\ys≠[]/\xs.length+ys.length<=lim then some (xs.take i.toNat++ys++xs.drop i.toNat) else none
theorem ATA{c:C}(q:Sv c=true)(xs:List c.D)(i:Int)(ys:List c.D)(r:List c.D)(h:ln c xs i ys=some r) :
 Iv (.Lf (2*c.size) [.o,.v,.v]) [.o .one (enc (.l c) xs),.v .one (enc .i i),.v .one (enc (.l c) ys)] .one (enc (.l c) r) []:=by
 unfold ln at h;split at h
 .rename_i j;cases h;intro Rn hRn;refine hRn _ _ _ _ _ ?_;show Sn (2*c.size) _ _ _ _;unfold Sn;refine⟨by omega,?_⟩;rw[AW (by omega)];refine⟨_,xs.map (enc c),_,ys.map (enc c),i,rfl,rfl,?_,rfl,?_,IH q _,IH q _,j.1,by simpa using j.2.1,by simpa using j.2.2.1,by simpa using j.2.2.2,rfl,?_,rfl⟩
  .simp[eOf]
  .simp[eOf]
  .show [T.sl c.size ((xs.take i.toNat++ys++xs.drop i.toNat).map (enc c))]=_;simp[Cl,CU]
 .cases h
def AZO(c:C)(hf:Sv c=true):GF:=
 ⟨.Lf (2*c.size) [.o,.v,.v],[.o (.l c),.v .i,.v (.l c)],.ret [.l c],fun a=>ln c a.1 a.2.1 a.2.2.1,rfl,fun a r h=>ATA hf _ _ _ r h⟩
def AA7(c:C)(xs:List c.D)(i j:Int):Option (List c.D):=
 if 0<=i/\i<j/\j<=xs.length then some (xs.take i.toNat++xs.drop j.toNat) else none
theorem AO3{c:C}(E:Sv c=true)(y:decide (0<c.size)=true)(xs:List c.D)(i j:Int)(r:List c.D)(h:AA7 c xs i j=some r) :
 Iv (.Lf (2*c.size+1) [.o,.v,.v]) [.o .one (enc (.l c) xs),.v .one (enc .i i),.v .one (enc .i j)] .one (enc (.l c) r) []:=by
 unfold AA7 at h;split at h
 .rename_i q;cases h;intro Rn hRn;refine hRn _ _ _ _ _ ?_;show Sn (2*c.size+1) _ _ _ _;unfold Sn;have B:(2*c.size+1) / 2=c.size:=by omega
  have y:=of_decide_eq_true y;refine⟨by omega,?_⟩;rw[AT (by omega),B];refine⟨xs.map (enc c),i,j,rfl,IH E _,q.1,q.2.1,by simpa using q.2.2,rfl,?_,rfl⟩;show [T.sl c.size ((xs.take i.toNat++xs.drop j.toNat).map (enc c))]=_;simp[Cl,CU]
 .cases h
def AZE(c:C)(hf:Sv c=true)(hs:decide (0<c.size)=true):GF:=
 ⟨.Lf (2*c.size+1) [.o,.v,.v],[.o (.l c),.v .i,.v .i],.ret [.l c],fun a=>AA7 c a.1 a.2.1 a.2.2.1,rfl,fun a r h=>AO3 hf hs _ _ _ r h⟩
structure vT(ps:List PK)(rk:RK) where
 x:CD
 d:A ps->Option (Tu (rk.cs++Kn ps))
 ms:EI x=ps.map PK.md
 ok:∀a r,d a=some r->Iv x (aVs ps a) rk.sh ((PZ _ r).take rk.cs.length).flatten ((PZ _ r).drop rk.cs.length)
def vT.gf{ps:List PK}{rk:RK}(r:vT ps rk):GF:=⟨r.x,ps,rk,r.d,r.ms,r.ok⟩
def vT.of(g:GF):vT g.ps g.rk:=⟨g.x,g.d,g.ms,g.ok⟩
def vT.nil(ps:List PK)(rk:RK):vT ps rk:=⟨.Lf 1 (ps.map PK.md),fun _=>none,rfl,fun _ _ h=>by cases h⟩
end Lv
namespace Lv
open Go (IntKind BinOp UnOp)
section
variable{a b c d e f g h:Type}
def Be(k:a->h)(x:a×b):h:=k x.1
def Ah(k:a->b->h)(x:a×b×c):h:=k x.1 x.2.1
def GA(k:a->b->c->h)(x:a×b×c×d):h:=k x.1 x.2.1 x.2.2.1
def UN(k:a->b->c->d->h)(x:a×b×c×d×e):h:=k x.1 x.2.1 x.2.2.1 x.2.2.2.1
def AVn(k:a->b->c->d->e->h)(x:a×b×c×d×e×f):h:=k x.1 x.2.1 x.2.2.1 x.2.2.2.1 x.2.2.2.2.1
def AGd(k:a->b->c->d->e->f->h)(x:a×b×c×d×e×f×g):h:=k x.1 x.2.1 x.2.2.1 x.2.2.2.1 x.2.2.2.2.1 x.2.2.2.2.2.1
end
namespace Y
def YF.EE(f:YF)(d:A f.ps->Option (Tu (f.rk.cs++Kn f.ps)))(hd:∀a,f.run a=d a:=by intro a;kernel_rfl)(hp:ACB f.ps=true:=by rfl)(hf:f.fs.map (fun n=>(f.R[n]?).map GF.x)=(fX f.ps).map some:=by rfl):GF:=f.gf hp hf d hd
end Y
def N8{γ:Type}(x y:B3)(X:Option γ):Option γ:=eqv x.Data y.Data (eqv x.Safe y.Safe X)
theorem LR{γ:Type}(x:B3)(X:Option γ):N8 x x X=X:=by unfold N8;simp only[Ch]
def QF{γ:Type}(x y:Bf)(X:Option γ):Option γ:=eqv x.Code y.Code (eqv x.Ids y.Ids X)
theorem vI{γ:Type}(x:Bf)(X:Option γ):QF x x X=X:=by unfold QF;simp only[Ch]
def vL{γ:Type}(x y:DM)(X:Option γ):Option γ:=eqv x.RW y.RW (eqv x.at_ y.at_ (eqv x.vg y.vg X))
theorem vM{γ:Type}(x:DM)(X:Option γ):vL x x X=X:=by unfold vL;simp only[Ch]
def AKY{γ:Type}(x y:PN)(X:Option γ):Option γ:=eqv x.b_ y.b_ (eqv x.i_ y.i_ (eqv x.h_ y.h_ X))
theorem vN{γ:Type}(x:PN)(X:Option γ):AKY x x X=X:=by unfold AKY;simp only[Ch]
def vG{γ:Type}(x y:Ad)(X:Option γ):Option γ:=eqv x.Level y.Level (eqv x.Ay y.Ay (eqv x.Id y.Id (eqv x.BB y.BB X)))
theorem vH{γ:Type}(x:Ad)(X:Option γ):vG x x X=X:=by unfold vG;simp only[Ch]
def AYg{γ:Type}(x y:Bo)(X:Option γ):Option γ:=eqv x.Kind y.Kind (eqv x.Id y.Id (eqv x.AY y.AY (eqv x.Bk y.Bk (eqv x.BB y.BB (eqv x.Cv y.Cv X)))))
theorem QG{γ:Type}(x:Bo)(X:Option γ):AYg x x X=X:=by unfold AYg;simp only[Ch]
def vJ{γ:Type}(x y:Br)(X:Option γ):Option γ:=eqv x.Log.Data y.Log.Data (eqv x.Log.Safe y.Log.Safe (eqv x.EJ.Data y.EJ.Data (eqv x.EJ.Safe y.EJ.Safe (eqv x.Odd.Data y.Odd.Data (eqv x.Odd.Safe y.Odd.Safe X)))))
theorem MR{γ:Type}(x:Br)(X:Option γ):vJ x x X=X:=by unfold vJ;simp only[Ch]
def CT{γ:Type}(x y:Ae)(X:Option γ):Option γ:=eqv x.AZ y.AZ (eqv x.Ce y.Ce (eqv x.Room y.Room (eqv x.BB y.BB (eqv x.CE y.CE (eqv x.B0 y.B0 (eqv x.Rest y.Rest (eqv x.Cd y.Cd (eqv x.C3 y.C3 X))))))))
theorem KC{γ:Type}(x:Ae)(X:Option γ):CT x x X=X:=by unfold CT;simp only[Ch]
def KB{γ:Type}(x y:AM)(X:Option γ):Option γ:=eqv x.Id y.Id (eqv x.AY y.AY (eqv x.Bk y.Bk (eqv x.BB y.BB (eqv x.Cv y.Cv (eqv x.Since y.Since (eqv x.Ay y.Ay (eqv x.State y.State (eqv x.Cq y.Cq (eqv x.DB y.DB X)))))))))
theorem Fl{γ:Type}(x:AM)(X:Option γ):KB x x X=X:=by unfold KB;simp only[Ch]
def JG{γ:Type}(x y:AF)(X:Option γ):Option γ:=eqv x.AQ.AZ y.AQ.AZ (eqv x.AQ.Ce y.AQ.Ce (eqv x.AQ.Room y.AQ.Room (eqv x.AQ.BB y.AQ.BB (eqv x.AQ.CE y.AQ.CE (eqv x.AQ.B0 y.AQ.B0 (eqv x.AQ.Rest y.AQ.Rest (eqv x.AQ.Cd y.AQ.Cd (eqv x.AQ.C3 y.AQ.C3 (eqv x.Now y.Now (eqv x.Ay y.Ay (eqv x.AG y.AG (eqv x.AH y.AH (eqv x.BE y.BE (eqv x.BC y.BC X))))))))))))))
theorem Hf{γ:Type}(x:AF)(X:Option γ):JG x x X=X:=by unfold JG;simp only[Ch]
def lP{γ:Type}(x y:BD)(X:Option γ):Option γ:=eqv x.Az.AQ.AZ y.Az.AQ.AZ (eqv x.Az.AQ.Ce y.Az.AQ.Ce (eqv x.Az.AQ.Room y.Az.AQ.Room (eqv x.Az.AQ.BB y.Az.AQ.BB (eqv x.Az.AQ.CE y.Az.AQ.CE (eqv x.Az.AQ.B0 y.Az.AQ.B0 (eqv x.Az.AQ.Rest y.Az.AQ.Rest (eqv x.Az.AQ.Cd y.Az.AQ.Cd (eqv x.Az.AQ.C3 y.Az.AQ.C3 (eqv x.Az.Now y.Az.Now (eqv x.Az.Ay y.Az.Ay (eqv x.Az.AG y.Az.AG (eqv x.Az.AH y.Az.AH (eqv x.Az.BE y.Az.BE (eqv x.Az.BC y.Az.BC (eqv x.Bl.Log.Data y.Bl.Log.Data (eqv x.Bl.Log.Safe y.Bl.Log.Safe (eqv x.Bl.EJ.Data y.Bl.EJ.Data (eqv x.Bl.EJ.Safe y.Bl.EJ.Safe (eqv x.Bl.Odd.Data y.Bl.Odd.Data (eqv x.Bl.Odd.Safe y.Bl.Odd.Safe (eqv x.Seq y.Seq (eqv x.Laid y.Laid X))))))))))))))))))))))
theorem JA{γ:Type}(x:BD)(X:Option γ):lP x x X=X:=by unfold lP;simp only[Ch]
def Nj{γ:Type}(x y:CB)(X:Option γ):Option γ:=eqv x.Ac.Az.AQ.AZ y.Ac.Az.AQ.AZ (eqv x.Ac.Az.AQ.Ce y.Ac.Az.AQ.Ce (eqv x.Ac.Az.AQ.Room y.Ac.Az.AQ.Room (eqv x.Ac.Az.AQ.BB y.Ac.Az.AQ.BB (eqv x.Ac.Az.AQ.CE y.Ac.Az.AQ.CE (eqv x.Ac.Az.AQ.B0 y.Ac.Az.AQ.B0 (eqv x.Ac.Az.AQ.Rest y.Ac.Az.AQ.Rest (eqv x.Ac.Az.AQ.Cd y.Ac.Az.AQ.Cd (eqv x.Ac.Az.AQ.C3 y.Ac.Az.AQ.C3 (eqv x.Ac.Az.Now y.Ac.Az.Now (eqv x.Ac.Az.Ay y.Ac.Az.Ay (eqv x.Ac.Az.AG y.Ac.Az.AG (eqv x.Ac.Az.AH y.Ac.Az.AH (eqv x.Ac.Az.BE y.Ac.Az.BE (eqv x.Ac.Az.BC y.Ac.Az.BC (eqv x.Ac.Bl.Log.Data y.Ac.Bl.Log.Data (eqv x.Ac.Bl.Log.Safe y.Ac.Bl.Log.Safe (eqv x.Ac.Bl.EJ.Data y.Ac.Bl.EJ.Data (eqv x.Ac.Bl.EJ.Safe y.Ac.Bl.EJ.Safe (eqv x.Ac.Bl.Odd.Data y.Ac.Bl.Odd.Data (eqv x.Ac.Bl.Odd.Safe y.Ac.Bl.Odd.Safe (eqv x.Ac.Seq y.Ac.Seq (eqv x.Ac.Laid y.Ac.Laid (eqv x.GG y.GG (eqv x.Cx y.Cx (eqv x.GH y.GH X)))))))))))))))))))))))))
theorem vK{γ:Type}(x:CB)(X:Option γ):Nj x x X=X:=by unfold Nj;simp only[Ch]
def D9:List U:=[.nil,.int .i64 0,.int .i64 0,.int .i64 0,.int .i64 0,.int .i64 0,.int .i64 0,.int .i64 0,.int .i64 0,.int .i64 0,.int .i64 0,.nil,.nil,.nil,.nil]
def AXo:List U:=[.int .i64 0,.int .i64 0,.int .i64 0,.int .i64 0,.int .i64 0,.int .i64 0,.int .i64 0,.int .i64 0,.int .i64 0,.int .i64 0]
def AXn:List U:=[.int .i64 0,.int .i64 0,.int .i64 0,.int .i64 0,.int .i64 0,.nil,.nil]
def ev2{α0 α1 γ:Type}(a0:α0)(a1:α1)(X:Option γ):Option γ:=eqv a0 a0 (eqv a1 a1 X)
theorem KX{α0 α1 γ:Type}(a0:α0)(j:α1)(X:Option γ):ev2 a0 j X=X:=by unfold ev2;simp only[Ch]
def ev3{α0 α1 α2 γ:Type}(a0:α0)(a1:α1)(a2:α2)(X:Option γ):Option γ:=eqv a0 a0 (eqv a1 a1 (eqv a2 a2 X))
theorem KY{α0 α1 α2 γ:Type}(a0:α0)(j:α1)(q:α2)(X:Option γ):ev3 a0 j q X=X:=by unfold ev3;simp only[Ch]
def ev4{α0 α1 α2 α3 γ:Type}(a0:α0)(a1:α1)(a2:α2)(a3:α3)(X:Option γ):Option γ:=eqv a0 a0 (eqv a1 a1 (eqv a2 a2 (eqv a3 a3 X)))
theorem KZ{α0 α1 α2 α3 γ:Type}(a0:α0)(j:α1)(q:α2)(a3:α3)(X:Option γ):ev4 a0 j q a3 X=X:=by unfold ev4;simp only[Ch]
def ev5{α0 α1 α2 α3 α4 γ:Type}(a0:α0)(a1:α1)(a2:α2)(a3:α3)(a4:α4)(X:Option γ):Option γ:=eqv a0 a0 (eqv a1 a1 (eqv a2 a2 (eqv a3 a3 (eqv a4 a4 X))))
theorem Ka{α0 α1 α2 α3 α4 γ:Type}(a0:α0)(j:α1)(q:α2)(a3:α3)(a4:α4)(X:Option γ):ev5 a0 j q a3 a4 X=X:=by unfold ev5;simp only[Ch]
def ev6{α0 α1 α2 α3 α4 α5 γ:Type}(a0:α0)(a1:α1)(a2:α2)(a3:α3)(a4:α4)(a5:α5)(X:Option γ):Option γ:=eqv a0 a0 (eqv a1 a1 (eqv a2 a2 (eqv a3 a3 (eqv a4 a4 (eqv a5 a5 X)))))
theorem Jw{α0 α1 α2 α3 α4 α5 γ:Type}(a0:α0)(j:α1)(q:α2)(a3:α3)(a4:α4)(y:α5)(X:Option γ):ev6 a0 j q a3 a4 y X=X:=by unfold ev6;simp only[Ch]
def ev7{α0 α1 α2 α3 α4 α5 α6 γ:Type}(a0:α0)(a1:α1)(a2:α2)(a3:α3)(a4:α4)(a5:α5)(a6:α6)(X:Option γ):Option γ:=eqv a0 a0 (eqv a1 a1 (eqv a2 a2 (eqv a3 a3 (eqv a4 a4 (eqv a5 a5 (eqv a6 a6 X))))))
theorem Kb{α0 α1 α2 α3 α4 α5 α6 γ:Type}(a0:α0)(j:α1)(q:α2)(a3:α3)(a4:α4)(y:α5)(B:α6)(X:Option γ):ev7 a0 j q a3 a4 y B X=X:=by unfold ev7;simp only[Ch]
def ev8{α0 α1 α2 α3 α4 α5 α6 α7 γ:Type}(a0:α0)(a1:α1)(a2:α2)(a3:α3)(a4:α4)(a5:α5)(a6:α6)(a7:α7)(X:Option γ):Option γ:=eqv a0 a0 (eqv a1 a1 (eqv a2 a2 (eqv a3 a3 (eqv a4 a4 (eqv a5 a5 (eqv a6 a6 (eqv a7 a7 X)))))))
theorem Kc{α0 α1 α2 α3 α4 α5 α6 α7 γ:Type}(a0:α0)(j:α1)(q:α2)(a3:α3)(a4:α4)(y:α5)(B:α6)(E:α7)(X:Option γ):ev8 a0 j q a3 a4 y B E X=X:=by unfold ev8;simp only[Ch]
def orE{ρ:Type}(a b:Option ρ):Option ρ:=match a with|some r=>some r|none=>b
def GF.orE(g:GF)(d d2:A g.ps->Option (Tu (g.rk.cs++Kn g.ps)))(hd:∀a,d a=Lv.orE (g.d a) (d2 a))
 (hk:∀a r,d2 a=some r->Iv g.x (aVs g.ps a) g.rk.sh ((PZ _ r).take g.rk.cs.length).flatten ((PZ _ r).drop g.rk.cs.length)):GF:=
 ⟨g.x,g.ps,g.rk,d,g.ms,fun a r h=>by
  rw[hd]at h;unfold Lv.orE at h;split at h
  .rename_i r' h';cases h;exact g.ok a _ h'
  .exact hk a r h⟩
namespace Y
section
variable{R:List GF}
def qn(l:List (YOp R)):List (Option (Nat×Bool)×YOp R):=l.map fun o=>(none,o)
def qf(g:Nat)(l:List (YOp R)):List (Option (Nat×Bool)×YOp R):=l.map fun o=>(some (g,false),o)
def qt(g:Nat)(l:List (YOp R)):List (Option (Nat×Bool)×YOp R):=l.map fun o=>(some (g,true),o)
def qr(l:List (List (Option (Nat×Bool)×YOp R)))(E1:List Nat):GI R:=.region l.flatten E1
def q1(l:List (YOp R))(E1:List Nat):GI R:=.region (qn l) E1
def qdl(r:Bt R):Nat->List (Option (Nat×Bool)×YOp R)->Bt R|_,[]=>r|i,o::l=>.op i o.1 [] o.2 (qdl r (i+1) l)
def qd(i:Nat)(l:List (List (Option (Nat×Bool)×YOp R)))(r:Bt R):Bt R:=qdl r i l.flatten
def qm(d s:Nat):YOp R:=.mv d (.tmp s)
def qa(d s:Nat):YOp R:=.as d (.tmp s)
def qo(d o s:Nat):YOp R:=.fa d o (.tmp s)
def ql(d s:Nat):YOp R:=.ld d none (.tmp s)
def qL(d n s:Nat):YOp R:=.ld d (some n) (.tmp s)
def qb(d:Nat)(o:BinOp)(x y:Nat):YOp R:=.bin d .num o (.tmp x) (.tmp y)
def qi(d:Nat)(o:BinOp)(x:Nat)(n:Int):YOp R:=.bin d .num o (.tmp x) (.k (.int .i64 n))
def qx(d s:Nat):YOp R:=.un d .not (.tmp s)
def qp(d c x:Nat):YOp R:=.pick d (.tmp c) (.k (.bool true)) (.tmp x)
def qq(d c x:Nat):YOp R:=.pick d (.tmp c) (.tmp x) (.k (.bool false))
def qc(d:Nat)(g:GF)(hf:([]:List Nat).map (fun n=>(R[n]?).map GF.x)=(fX g.ps).map some)(l:List Nat):YOp R:=.call d g [] hf (l.map .tmp)
def qz(d s:Nat):YOp R:=.len d (.tmp s)
def qe(d:Nat)(c:C)(x i:Nat):YOp R:=.ia d c (.tmp x) (.tmp i)
def qk(d:Nat)(n:Int):YOp R:=.mv d (.k (.int .i64 n))
def qK(d:Nat)(n:Int):YOp R:=.as d (.k (.int .i64 n))
def qB(d:Nat)(b:Bool):YOp R:=.as d (.k (.bool b))
def qw(n x v:Nat):YOp R:=.st n (.tmp x) (.tmp v)
def qu(d s:Nat):YOp R:=.box d (.tmp s)
def qj(n:Int):YO:=.k (.int .i64 n)
instance (n:Nat):OfNat YO n:=⟨.tmp n⟩
def kpF:Nat->Nat->Nat->List Nat
 |0,_,_=>[]|f+1,i,n=>match Nat.beq n 0 with|true=>[]|false=>match Nat.testBit n 0 with|true=>i::kpF f (i+1) (n / 2)|false=>kpF f (i+1) (n / 2)
def wU:Nat->List (Nat->Nat->YOp R)->List (YOp R)|_,[]=>[]|0,f::l=>f 0 0::wU 1 l|k+1,f::l=>f (k+1) k::wU (k+2) l
def wn(d:Nat)(l:List (Nat->Nat->YOp R)):List (Option (Nat×Bool)×YOp R):=qn (wU d l)
def wf(g d:Nat)(l:List (Nat->Nat->YOp R)):List (Option (Nat×Bool)×YOp R):=qf g (wU d l)
def wt(g d:Nat)(l:List (Nat->Nat->YOp R)):List (Option (Nat×Bool)×YOp R):=qt g (wU d l)
def w1(d:Nat)(l:List (Nat->Nat->YOp R))(E1:List Nat):GI R:=q1 (wU d l) E1
def sw(d:Nat)(l:List (Nat->Nat->YOp R))(E1:List Nat)(b:GI R):GI R:=.seq (q1 (wU d l) E1) b
def sq(l:List (YOp R))(E1:List Nat)(b:GI R):GI R:=.seq (q1 l E1) b
def sr(l:List (List (Option (Nat×Bool)×YOp R)))(E1:List Nat)(b:GI R):GI R:=.seq (qr l E1) b
def wm(s d _p:Nat):YOp R:=.mv d (.tmp s)
def wM(d p:Nat):YOp R:=.mv d (.tmp p)
def wo(o s d _p:Nat):YOp R:=.fa d o (.tmp s)
def wO(o d p:Nat):YOp R:=.fa d o (.tmp p)
def wl(s d _p:Nat):YOp R:=.ld d none (.tmp s)
def wL(d p:Nat):YOp R:=.ld d none (.tmp p)
def wk(n s d _p:Nat):YOp R:=.ld d (some n) (.tmp s)
def wK(n d p:Nat):YOp R:=.ld d (some n) (.tmp p)
def wz(s d _p:Nat):YOp R:=.len d (.tmp s)
def wZ(d p:Nat):YOp R:=.len d (.tmp p)
def wx(s d _p:Nat):YOp R:=.un d .not (.tmp s)
def wX(d p:Nat):YOp R:=.un d .not (.tmp p)
def wb(o:BinOp)(x y d _p:Nat):YOp R:=.bin d .num o (.tmp x) (.tmp y)
def wB(o:BinOp)(x d p:Nat):YOp R:=.bin d .num o (.tmp x) (.tmp p)
def wi(o:BinOp)(x:Nat)(n:Int)(d _p:Nat):YOp R:=.bin d .num o (.tmp x) (.k (.int .i64 n))
def wI(o:BinOp)(n:Int)(d p:Nat):YOp R:=.bin d .num o (.tmp p) (.k (.int .i64 n))
def wr(c x d _p:Nat):YOp R:=.pick d (.tmp c) (.k (.bool true)) (.tmp x)
def wR(c d p:Nat):YOp R:=.pick d (.tmp c) (.k (.bool true)) (.tmp p)
def wq(c x d _p:Nat):YOp R:=.pick d (.tmp c) (.tmp x) (.k (.bool false))
def wQ(c d p:Nat):YOp R:=.pick d (.tmp c) (.tmp p) (.k (.bool false))
def we(c:C)(x i d _p:Nat):YOp R:=.ia d c (.tmp x) (.tmp i)
def wE(c:C)(x d p:Nat):YOp R:=.ia d c (.tmp x) (.tmp p)
def wc(g:GF)(hf:([]:List Nat).map (fun n=>(R[n]?).map GF.x)=(fX g.ps).map some)(l:List YO)(d _p:Nat):YOp R:=.call d g [] hf l
def wY(g:GF)(hf:([]:List Nat).map (fun n=>(R[n]?).map GF.x)=(fX g.ps).map some)(d p:Nat):YOp R:=.call d g [] hf [.tmp p]
def wj(n:Int)(d _p:Nat):YOp R:=.mv d (.k (.int .i64 n))
def wh(f:Nat->YOp R)(d _p:Nat):YOp R:=f d
def Kp(n:Nat):List Nat:=kpF 300 0 n
def cv(n:Nat)(c:C):Bool×Nat×Sh×List AL:=(false,n,.one,[.val c none])
def ca(n:Nat)(c:C):Bool×Nat×Sh×List AL:=(false,n,.agg,[.val c none])
def cx(n:Nat)(c:C):Bool×Nat×Sh×List AL:=(true,n,.one,[.val c none])
def cn(c:Nat)(ke:List Nat)(t:GI R):GI R:=.cond c [] ke t .skip
def ce(c:Nat)(kt ke:List Nat)(id:Nat):GI R:=.cond c kt ke .skip (.exit id)
def bl(id:Nat)(c:Cut)(b:GI R):GI R:=.block id (.loop c b)
end
end Y
end Lv
namespace Lv
open Go
section
variable{A:Nat->Nat->List Md->Prop}{P:Program}
def fnd(n:Nat)(ms:List Md):List (Nat×CD)->Option CD
 | []=>none|p::r=>match Nat.beq p.1 n&&decide (EI p.2=ms) with|true=>some p.2|false=>fnd n ms r
theorem rA {n ms x}:∀{r:List (Nat×CD)},fnd n ms r=some x->(n,x)∈r
 | [],h=>by cases h
 |(k,y)::r,h=>by
  unfold fnd at h;split at h
  .rename_i j;cases h;rw[AE]at j;have q:k=n:=Nat.eq_of_beq_eq_true j.1;subst q;exact Bc
  .exact Au _ (rA h)
theorem Mt.at{r:List (Nat×CD)} {n x} (h:∀p∈r,Mt A P p.1 p.2) (e:fnd n (EI x) r=some x):Mt A P n x:=h _ (rA e)
def caO(P:Program)(p:Nat×CD):List (Nat×CD):=match P.funcs[p.1]? with|some fn=>AG2 fn p.2|none=>[]
def okO(P:Program)(p:Nat×CD):Bool:=match P.funcs[p.1]? with|some fn=>AXA P fn p.2|none=>false
def okM(P:Program):List (Nat×CD)->Bool| []=>true|p::l=>okO P p&&okM P l
def caM(P:Program):List (Nat×CD)->List (List (Nat×CD))| []=>[]|p::l=>caO P p::caM P l
def ex1(r:List (Nat×CD))(q:Nat×CD):Nat×CD:=match fnd q.1 (EI q.2) r with|some x=>(q.1,x)|none=>(q.1+1,q.2)
def exM(P:Program):List (Nat×CD)->List (Nat×CD)->List (List (Nat×CD))| [],_=>[]|p::l,r=>(caO P p).map (ex1 r)::exM P l (p::r)
theorem AJ3{α:Type}{f:α->α}:∀{l:List α},l=l.map f->∀x∈l,x=f x
 |a::l,h,x,j=>by
  injection h with q y;rcases Ar.1 j with rfl|j
  .exact q
  .exact AJ3 y x j
theorem Mt.s:∀{l r:List (Nat×CD)},(∀p∈r,Mt A P p.1 p.2)->okM P l=true->caM P l=exM P l r->∀p∈l.reverseAux r,Mt A P p.1 p.2
 | [],_,h,_,_=>h|p::l,r,h,G,J=>by
  unfold okM at G;unfold caM exM at J;rw[AE]at G;obtain⟨y,L⟩:=G;injection J with j B;refine Mt.s (l:=l) (r:=p::r) (fun q H=>?_) L B;rcases Ar.1 H with rfl|H
  .unfold okO at y;unfold caO at j;cases E:P.funcs[q.1]? with
   |none=>simp[E]at y|some fn=>
    simp only[E]at y j;refine Mt.by E y rfl fun t O=>?_
    have e:=AJ3 j t O;unfold ex1 at e;cases I:fnd t.1 (EI t.2) r with
    |none=>
     rw[I]at e;have:=congrArg Prod.fst e;simp at this
    |some x=>
     rw[I]at e;rw[e];exact h _ (rA I)
  .exact h q H
def lX(l:List (Nat×GF)):List (Nat×CD):=l.map fun p=>(p.1,p.2.x)
end
end Lv
