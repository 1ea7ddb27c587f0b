/- The typed machine is right about the light one. -/
import Derived.Test.YtnjoipcemhflkaaGreatTAc
import Derived.KernelRfl
noncomputable section
set_option linter.unusedVariables false
set_option linter.unusedSimpArgs false
set_option linter.unusedSectionVars false
open Bool renaming and_eq_true->AF,false_and->BW,false_eq_true->BA,not_eq_true'->A6
open List.cons renaming injEq->CL
open List renaming drop_left'->CU,ext_getElem?->Ew,getD_eq_getElem?_getD->A0,getElem?_eq_some_iff->AO,getElem?_map->Aw,getElem?_set->DZ,length_append->AN,length_cons->AI,length_drop->BD,length_map->Ah,length_nil->AP,map_append->DQ,map_cons->AJ,map_drop->CI,map_flatten->Jy,map_map->Da,map_nil->BM,map_replicate->GH,map_set->Gy,map_take->CX,mem_cons->Ak,mem_cons_of_mem->Aq,mem_cons_self->BQ,take_append_drop->Hq,take_left'->Ce
open Nat renaming beq_refl->Ml,le_refl->Ab,lt_succ_of_lt->JO,not_lt->ON,sub_self->Dc
open Option renaming getD_some->J4,map_some->An
open Option.some renaming injEq->AD
namespace Lv
open Go (IntKind BinOp UnOp)
theorem ADP{γ:Type}{b:Bool}{x y:Option γ}{r:γ}(h:br b x y=some r):(b=true/\x=some r)\/(b=false/\y=some r):=by
 grind[ASs]
theorem Pq{γ:Type}{p:Prop} [Decidable p] {x:Option γ} {r:γ} (h:gd p x=some r):p/\x=some r:=by
 grind[AKm]
theorem VT{α γ:Type}{o:Option α}{f:α->Option γ}{r:γ}(h:bd o f=some r):∃a,o=some a/\f a=some r:=ob (AAk o f▸h)
theorem XG(X:List (List T))(i j:Nat)(o:T)(k:Nat):(Ir X i j o)[k]?=if k=i then (X[i]?).map (fun row=>row.set j o) else X[k]?:=by
 grind[Ir,List.getElem?_eq_getElem,List.getElem?_eq_none]
theorem AI4(X:List (List T))(i j y q:Nat)(o t:T)(h:q≠j):Ir (Ir X y q t) i j o=Ir (Ir X i j o) y q t:=by
 apply Ew
 grind[XG,List.set_comm]
theorem AI5(X:List (List T))(i j:Nat)(o t:T):Ir (Ir X i j t) i j o=Ir X i j o:=by
 apply Ew;intro k;simp only[XG];by_cases q:k=i
 .subst q;simp only[if_true];cases X[k]? with|none=>rfl|some row=>simp
 .simp only[if_neg q]
namespace Y
section
variable{R:List GF}{ρ:Type}
theorem mM(i j:Nat)(o:T):∀(q:List (Nat×Nat)) (X:List (List T)),(∀p∈q,p.2≠j)->Ir (Mx X q) i j o=Mx (Ir X i j o) q
 | [],X,_=>rfl|(a,b)::q,X,h=>by
  simp only[Mx];rw[mM i j o q _ (fun p y=>h p (by simp[y])),AI4 X i j a b o .top (h (a,b) (by simp))]
theorem APp{c:C}{xs:List c.D}{i j:Nat}{o:U}{x y:c.D}(q:xs[i]?=some x)(h:ofC c ((cells c x).set j o)=some y):Ir (xs.map (enc c)) i j o.fg=(xs.set i y).map (enc c):=by
 have B:i<xs.length:=(AO.1 q).1;apply Ew;intro k;simp only[XG,Aw,DZ];by_cases E:k=i
 .subst E;simp only[if_true,q,An,B,AD];rw[IJ h,El,Gy]
 grind
theorem Nu:∀{ls:List AS} {us:List U} {S:St} {K:St->Option ρ} {r:ρ},Gp S ls us K=some r ->
 ∃S',Lv.Gp (S.fg R) (ls.map (AS.fg R)) (us.map U.fg)=some (S'.fg R)/\BO S S'/\K S'=some r
 | [],[],S,K,r,h=>⟨S,rfl,BO.refl _,h⟩| [],u::us,S,K,r,h=>by simp[Gp]at h|l::ls,[],S,K,r,h=>by cases l<;>simp[Gp]at h
 |l::ls,o::us,S,K,r,h=>by
  cases l with
  |t x=>
   have h:Gp S ls us K=some r:=h;obtain⟨S',y,B,E⟩:=Nu h;exact⟨S',y,B,E⟩
  |al q sub=>
   cases sub with
   |some p=>simp[Gp]at h|none=>
    have h:Gp (S.Be q (.ow o)) ls us K=some r:=h;obtain⟨S',y,B,E⟩:=Nu h;refine⟨S',?_,(BO.Be _ _ _).trans B,E⟩;rw[Gk]at y;exact y
  |vw s c xs=>
   cases s with
   |old k=>simp[Gp]at h|own q p=>
    cases p with
    |none=>simp[Gp]at h|some p=>
     obtain⟨i,j⟩:=p;simp only[Gp]at h;split at h
     .rename_i c' rows i' Z H I;split at h
      .rename_i Q;obtain⟨rfl,G⟩:=Q;obtain⟨rfl,h⟩:=Pq h;obtain⟨x,Y,h⟩:=VT h;split at h
       .rename_i x' L;obtain⟨S',y,B,E⟩:=Nu h;refine⟨S',?_,((BO.Be _ _ _).trans (BO.kill _ _)).trans B,E⟩;have J:∀p∈H,p.2≠Z:=by
         intro p X;have:=List.all_eq_true.1 G p X;intro O;simp[O]at this
        simp only[AJ,AS.fg,Lv.Gp,KJ,I,An];rw[<-Kh (Q4 q),Gk]at y;rw[<-y];congr 3;simp only[Mx];rw[mM _ _ _ H _ J,AI5,APp Y L];cases H with
        |nil=>simp only[AS.fg,U.fg,Mx]|cons p H=>simp only[AS.fg]
       .cases h
      .cases h
     .cases h
  |_=>simp[Gp]at h
theorem ARN(S0 S:Lv.St)(ms:List Md)(e:Lv.Ent)(es:List Lv.Ent)(outs:List (List T)):Lv.E0 S0 S (.b::ms) (e::es) outs=match ATE e,outs with
 |some id,o::outs=>(match Lv.get S0.bx id,Lv.get S.bx id with
  |some ls,some j=>if o.length=j.length then Lv.E0 S0 { S with bx:=Lv.put S.bx id (o.map (Lv.Dt (Lv.C8 ls)))} ms es outs else none
  |_,_=>none)
 |_,_=>none:=by
 obtain⟨sh,cs⟩:=e;cases sh<;>try rfl
 rcases cs with _|⟨l,_|⟨q,ls⟩⟩
 .rfl
 .cases l<;>try rfl
  rename_i id off;cases off<;>cases outs<;>rfl
 .cases l<;>try rfl
  rename_i id off;cases off<;>rfl
theorem ASo{S0 S:St}{c:C}{ks:List PK}{e:En}{es:List En}{outs:List (List U)}{K:St->Option ρ}:E0 S0 S (.b c::ks) (e::es) outs K=match bp0 e,outs with
 |some id,o::outs=>(match get S0.bx id,get S.bx id with
  |some ls,some j=>if o.length=j.cs.length then E0 S0 (S.OJ id (o.map (Dt (C8 ls.cs)))) ks es outs K else none|_,_=>none)
 |_,_=>none:=by
 obtain⟨sh,cs⟩:=e;cases sh<;>try rfl
 rcases cs with _|⟨l,_|⟨q,ls⟩⟩
 .rfl
 .cases l<;>try rfl
  rename_i id off;cases off<;>cases outs<;>rfl
 .cases l<;>try rfl
  rename_i id off;cases off<;>rfl
theorem Nc{S0:St}:∀{ks:List PK} {es:List En} {outs:List (List U)} {S:St} {K:St->Option ρ} {r:ρ},E0 S0 S ks es outs K=some r ->
 ∃S',Lv.E0 (S0.fg R) (S.fg R) (ks.map PK.md) (es.map (En.fg R)) (outs.map fun o=>o.map U.fg)=some (S'.fg R)/\BO S S'/\K S'=some r
 | [],es,[],S,K,r,h=>by
  refine⟨S,?_,BO.refl _,?_⟩
  .cases es<;>rfl
  .cases es<;>exact h
 | [],es,o::outs,S,K,r,h=>by cases es<;>simp[E0]at h
 |k::ks,[],outs,S,K,r,h=>by cases outs<;>simp[E0]at h
 |k::ks,e::es,outs,S,K,r,h=>by
  cases k with
  |b c=>
   rw[ASo]at h;simp only[AJ,PK.md];rw[ARN,AJn];split at h
   .rename_i id o outs' J;rw[J];simp only[AJ,Pm];split at h
    .rename_i ls O L E;rw[L,E];split at h
     .rename_i B;obtain⟨S',j,q,y⟩:=Nc h;refine⟨S',?_,(BO.OJ _ _ _).trans q,y⟩;simp only[An,Ah,B,if_true];rw[Tj,Py]at j;rw[N1];exact j
     .cases h
    .cases h
   .cases h
  |m c=>
   cases outs with
   |nil=>simp[E0]at h|cons o outs=>
    have h:Gp S e.cs o (fun S'=>E0 S0 S' ks es outs K)=some r:=h;obtain⟨S1,j,q,y⟩:=Nu (R:=R) h;obtain⟨S',G,H,I⟩:=Nc y;refine⟨S',?_,q.trans H,I⟩;simp only[AJ,PK.md,Lv.E0,En.fg,j];exact G
  |v c=>
   have h:E0 S0 S ks es outs K=some r:=by cases outs<;>exact h
   obtain⟨S',j,q,y⟩:=Nc h;refine⟨S',?_,q,y⟩;cases outs<;>exact j
  |p c=>
   have h:E0 S0 S ks es outs K=some r:=by cases outs<;>exact h
   obtain⟨S',j,q,y⟩:=Nc h;refine⟨S',?_,q,y⟩;cases outs<;>exact j
  |o c=>
   have h:E0 S0 S ks es outs K=some r:=by cases outs<;>exact h
   obtain⟨S',j,q,y⟩:=Nc h;refine⟨S',?_,q,y⟩;cases outs<;>exact j
  |f x l=>
   have h:E0 S0 S ks es outs K=some r:=by cases outs<;>exact h
   obtain⟨S',j,q,y⟩:=Nc h;refine⟨S',?_,q,y⟩;cases outs<;>exact j
theorem iN{S:St}{d:Nat}{ls:List AS}{K:St->Option ρ}{r:ρ}(h:P0 S d ls K=some r):∃S',Lv.P0 (S.fg R) d (ls.map (AS.fg R))=some (S'.fg R)/\BO S S'/\K S'=some r:=by
 unfold P0 at h;split at h
 .cases h
 .rename_i j;have q:d∉(S.fg R).pin:=NR.1 j;refine⟨_,?_,((BO.kill _ _).trans (BO.Jt _ _ _ _)).trans (BO.OJ _ _ _),h⟩;unfold Lv.P0;rw[if_neg q,Tj,Ld,<-Kh (q':=fun l=>Lv.EO d l||Lv.E5 d l) (fun l=>by rw[Wx,Ww])];rfl
theorem ARL{S:St}{e:En}{k:Nat}(h:iA S e=some k):Lv.iA (S.fg R) (e.fg R)=some k:=by
 have gen:∀(cs:List AS),(if (E1 (C8 cs) cs).isSome=true then some (C8 cs) else none)=some k->(if (Lv.E1 (Lv.C8 (cs.map (AS.fg R))) (cs.map (AS.fg R))).isSome=true then some (Lv.C8 (cs.map (AS.fg R))) else none)=some k:=by
  intro cs h;rw[N1];cases q:E1 (C8 cs) cs with
  |none=>rw[q]at h;simp at h|some us=>rw[PO q];rw[q]at h;simpa using h
 obtain⟨sh,cs⟩:=e;cases sh<;>try exact gen cs h
 rcases cs with _|⟨l,_|⟨y,ls⟩⟩
 .exact gen [] h
 .have j:=gen [l];cases l with
  |bp id off=>
   grind[iA,En.fg,AS.fg,Lv.iA,Pm]
  |_=>exact j h
 .have j:=gen (l::y::ls);cases l<;>exact j h
theorem AF8{g:GF}{S0:St}{es:List En}{k lab:Nat}(h:iB g.ps S0 es k=some lab):Lv.iB g.x (S0.fg R) (es.map (En.fg R)) k=some lab:=by
 unfold iB at h;unfold Lv.iB;rw[g.ms];simp only[Aw];split at h
 .rename_i e B;rw[B];simp only[An];split at h
  .cases h
  .rename_i E;rw[if_neg]
   .exact ARL h
   .intro j;cases y:g.ps[k]? with
    |none=>rw[y]at j;simp at j|some q=>rw[y]at j;cases q<;>simp[PK.md]at j;exact E _ y
 .cases h
theorem gC:∀(cs:List C) (x:Tu cs),SK cs x=(Rr cs x).map fun l=>l.map U.fg| [],_=>rfl| [c],x=>congrArg (fun z=>[z]) (El c x)|c::j::cs,x=>by simp only[SK,Rr,AJ,El,gC (j::cs) x.2]
theorem ARZ{d:Nat}{g:GF}{es:List En}{S0 S:St}{x:Tu (g.rk.cs++MG g.ps)}{K:St->Option ρ}{r:ρ}(h:post d g es S0 S x K=some r) :
 ∃S',Lv.post d g.x (es.map (En.fg R)) (S0.fg R) (S.fg R) g.rk.sh ((SK _ x).take g.rk.cs.length).flatten ((SK _ x).drop g.rk.cs.length)=some (S'.fg R)/\BO S S'/\K S'=some r:=by
 unfold post at h;obtain⟨S1,J,G,j⟩:=Nc (R:=R) h;unfold Lv.post;rw[g.ms,gC,<-CI,J,<-CX,<-Jy];generalize ((Rr (g.rk.cs++MG g.ps) x).take g.rk.cs.length).flatten=us at j;dsimp only;cases I:g.rk with
 |ptr k c=>
  rw[I]at j;simp only[RK.sh];dsimp only at j;split at j
  .rename_i lab H;rw[AF8 H];obtain⟨S2,q,y,B⟩:=iN (R:=R) j;rw[Py]at q;exact⟨S2,q,G.trans y,B⟩
  .cases j
 |vw k c=>
  rw[I]at j;simp only[RK.sh];dsimp only at j;split at j
  .rename_i lab H;rw[AF8 H];obtain⟨S2,q,y,B⟩:=aq (R:=R) j;rw[Py]at q;exact⟨S2,q,G.trans y,B⟩
  .cases j
 |ret cs=>
  rw[I]at j;dsimp only at j;obtain⟨S2,q,y,B⟩:=aq (R:=R) j;rw[Yg]at q;refine⟨S2,?_,G.trans y,B⟩;simp only[RK.sh];cases E:zt (cs.map wC) with
  |ptr k=>exfalso;revert E;unfold zt;split<;>simp|vw k=>exfalso;revert E;unfold zt;split<;>simp|one=>rw[E]at q;exact q|agg=>rw[E]at q;exact q|tup ns=>rw[E]at q;exact q
theorem uM{d:Nat}{g:GF}{fs:List Nat}{es:List En}{S:St}{K:St->Option ρ}{r:ρ}(hA:Al R fs (fX g.ps))(h:ADf d g fs es S K=some r) :
 ∃S1 vs cs outs S',Lv.pre g.x (es.map (En.fg R)) (S.fg R)=some (S1,vs)/\Ji g.x vs g.rk.sh cs outs/\Lv.post d g.x (es.map (En.fg R)) (S.fg R) S1 g.rk.sh cs outs=some (S'.fg R)/\BO S S'/\K S'=some r:=by
 unfold ADf at h;split at h
 .cases h
 .rename_i H;split at h
  .rename_i S1 a j;obtain⟨x,I,h⟩:=VT h;obtain⟨q,y⟩:=AJh hA j;obtain⟨S',B,E,G⟩:=ARZ (R:=R) h;refine⟨_,_,_,_,S',?_,g.ok a x I,B,y.trans E,G⟩;unfold Lv.pre;rw[g.ms];have:=uR (R:=R) g.ps [] es;rw[BM]at this;rw[this,H,if_neg (by decide),q]
  .cases h
end
end Y
end Lv
namespace Lv
open Go (IntKind BinOp UnOp)
namespace Y
section
variable{R:List GF}{ρ:Type}
theorem EY{S:St}{x:YO}{l:AS}(h:S.one x=some l):(S.fg R).one (x.er R)=some (AS.fg R l):=by
 unfold St.one at h;split at h
 .rename_i l' j;cases h;simp only[Lv.St.one,LB j,En.fg,AJ,BM]
 .cases h
theorem Ol{S:St}{x:YO}{u:U}(h:S.sc x=some u):(S.fg R).sc (x.er R)=some u.fg:=by
 unfold St.sc AC2 at h;split at h
 .rename_i o l' j;cases h;simp only[Lv.St.sc,LB j,En.fg,AJ,BM,AS.fg,Lv.AC2]
 .cases h
theorem Si{S:St}{x:YO}{n:Int}(h:S.nat x=some n):(S.fg R).nat (x.er R)=some n:=by
 unfold St.nat at h;split at h
 .rename_i u j;simp only[Lv.St.nat,Ol j];cases u<;>simp[AUP]at h<;>subst h<;>rfl
 .cases h
theorem AS6{k:Kd}{a b:U}{c:Bool}(h:eqU k a b=some c):eqT k a.fg b.fg=some c:=by
 cases k<;>cases a<;>cases b<;>simp only[eqU]at h<;>first|cases h;done|exact h
theorem AFm:∀{ks:List Kd} {as j:List U} {c:Bool},yT ks as j=some c->Rg ks (as.map U.fg) (j.map U.fg)=some c
 | [],[],[],c,h=>h| [],[],b::j,c,h=>by simp[yT]at h| [],a::as,j,c,h=>by cases j<;>simp[yT]at h
 |k::ks,[],j,c,h=>by cases j<;>simp[yT]at h
 |k::ks,a::as,[],c,h=>by simp[yT]at h|k::ks,a::as,b::j,c,h=>by
  simp only[yT]at h;split at h
  .rename_i x y q B;cases h;simp only[AJ,Rg,AS6 q,AFm B]
  .cases h
theorem tQ:∀{ls:List AS} {us:List U},VH ls=some us->Lv.VH (ls.map (AS.fg R))=some (us.map U.fg)
 | [],us,h=>by cases h;rfl
 |l::ls,us,h=>by
  cases l with
  |t x=>
   simp only[VH]at h;split at h
   .rename_i q j;cases h;simp only[AJ,AS.fg,Lv.VH,tQ j,An]
   .cases h
  |_=>simp[VH]at h
theorem AKn{cst:Bool}{p:Prop} [Decidable p] {x:Option ρ} {r:ρ} (h:gdc cst p x=some r):p/\x=some r:=by
 cases cst with
 |true=>simp only[gdc]at h;split at h<;>simp_all|false=>exact Pq h
theorem ARE{cst:Bool}{op:BinOp}{k:IntKind}{a b:Int}{K:U->Option ρ}{r:ρ}(h:ATB cst op k a b K=some r):∃u,Zd op k a b=some (U.fg u)/\K u=some r:=by
 cases op<;>simp only[ATB]at h<;>first
  |exact⟨_,rfl,h⟩|(obtain⟨j,h⟩:=AKn h;exact⟨_,by simp only[Zd];rw[if_neg j];rfl,h⟩)
  |cases h
theorem APt{cst:Bool}{op:BinOp}{k:IntKind}{a b:Int}{K:U->Option ρ}{r:ρ}(h:shU cst op k a b K=some r):∃u,AC3 op k a b=some (U.fg u)/\K u=some r:=by
 cases op<;>simp only[shU]at h<;>first
  |cases h;done
  |(obtain⟨j,h⟩:=AKn h;exact⟨_,by simp only[AC3];rw[if_neg j];rfl,h⟩)
theorem AQC(n:Int):(U.u8 (toB n)).fg=.int .u8 (IntKind.u8.wrap n):=by simp only[U.fg,AJN]
theorem ASt{op:BinOp}{a b:Int}{K:U->Option ρ}{r:ρ}(h:byU op a b K=some r):∃u,Zd op .u8 a b=some (U.fg u)/\K u=some r/\ARH op=false:=by
 cases op<;>simp only[byU]at h<;>first
  |cases h;done
  |exact⟨_,by rw[AQC];rfl,h,rfl⟩|exact⟨_,rfl,h,rfl⟩
theorem nw{op:BinOp}{k j:IntKind}{a b:Int}:bI op (.int k a) (.int j b)=if ARH op=true then AC3 op k a b else if k=j then Zd op k a b else none:=by
 cases op<;>rfl
theorem AQd{cst:Bool}{op:BinOp}{x y:U}{K:U->Option ρ}{r:ρ}(h:ASp cst op x y K=some r):∃u,bI op x.fg y.fg=some (U.fg u)/\K u=some r:=by
 unfold ASp at h;split at h
 .rename_i k a E b;split at h
  .rename_i B;obtain⟨u,j,q⟩:=APt h;exact⟨u,by show bI op (.int k a) (.int E b)=_;rw[nw,if_pos B];exact j,q⟩
  .rename_i B;split at h
   .rename_i H;split at h
    .cases h
    .obtain⟨u,j,q⟩:=ARE h;exact⟨u,by show bI op (.int k a) (.int E b)=_;rw[nw,if_neg B,if_pos H];exact j,q⟩
   .cases h
 .rename_i k a b;split at h
  .rename_i B;obtain⟨u,j,q⟩:=APt h;exact⟨u,by show bI op (.int k a) (.int .u8 b.toNat)=_;rw[nw,if_pos B];exact j,q⟩
  .cases h
 .rename_i a b;obtain⟨u,j,q,G⟩:=ASt h;exact⟨u,by show bI op (.int .u8 a.toNat) (.int .u8 b.toNat)=_;rw[nw,if_neg (by simp[G]),if_pos rfl];exact j,q⟩
 .rename_i a b;split at h
  .obtain⟨j,h⟩:=Pq h;exact⟨_,by show (if a.length+b.length<=OE then some (T.str (a++b)) else none)=some (U.fg (.str (a++b)));rw[if_pos j];rfl,h⟩
  .exact⟨_,rfl,h⟩
  .exact⟨_,rfl,h⟩
  .cases h
 .cases h
theorem AA0{op:BinOp}{b:Bool}{K:U->Option ρ}{r:ρ}(h:eqK op b K=some r):∃u,jw op b=some (U.fg u)/\K u=some r:=by
 cases op<;>simp only[eqK]at h<;>first
  |cases h;done
  |exact⟨_,rfl,h⟩
theorem Zg{α β:Type}{f:α->β}{xs:List α}(h:xs.isEmpty=false):∃y ys,xs.map f=y::ys:=by
 cases xs with
 |nil=>simp at h|cons x xs=>exact⟨_,_,rfl⟩
theorem ARQ{S:St}{l:AS}{K:Bool->Option ρ}{r:ρ}(h:S.Uy l K=some r):∃b,(S.fg R).Uy (AS.fg R l)=some b/\K b=some r:=by
 unfold St.Uy at h;split at h
 .exact⟨true,rfl,h⟩
 .rename_i s c xs;obtain⟨j,h⟩:=Pq h;obtain⟨y,ys,E⟩:=Zg (f:=enc c) j;exact⟨false,by simp only[AS.fg,E,Lv.St.Uy],h⟩
 .rename_i q;simp only[AS.fg,Lv.St.Uy,KJ];split at h
  .rename_i B;rw[B];exact⟨true,rfl,h⟩
  .rename_i c xs B;rw[B];obtain⟨j,h⟩:=Pq h;obtain⟨y,ys,E⟩:=Zg (f:=enc c) j;exact⟨false,by simp only[An,AS.fg,U.fg,E],h⟩
  .cases h
 .cases h
theorem ASq{S:St}{cst:Bool}{c:Cls}{op:BinOp}{x y:En}{K:U->Option ρ}{r:ρ}(h:S.bin cst c op x y K=some r):∃u,(S.fg R).bin c op (x.fg R) (y.fg R)=some (U.fg u)/\K u=some r:=by
 unfold St.bin at h;split at h
 .split at h
  .exact AQd h
  .cases h
 .split at h
  .exact AA0 h
  .cases h
 .split at h
  .obtain⟨b,j,q⟩:=ARQ (R:=R) h;obtain⟨u,B,E⟩:=AA0 q;rename_i l;exact⟨u,by show (match (S.fg R).Uy (AS.fg R l) with|some b=>jw op b|none=>none)=_;rw[j];exact B,E⟩
  .cases h
 .split at h
  .split at h
   .rename_i G H j q;split at h
    .rename_i b I;obtain⟨u,B,E⟩:=AA0 h;refine⟨u,?_,E⟩;simp only[En.fg,Lv.St.bin,tQ j,tQ q,AFm I,B]
    .cases h
   .cases h
  .cases h
theorem ATr{op:UnOp}{x:U}{K:U->Option ρ}{r:ρ}(h:unU op x K=some r):∃u,unT op x.fg=some (U.fg u)/\K u=some r:=by
 unfold unU at h;split at h
 .cases op<;>simp only at h<;>first|cases h;done|exact⟨_,rfl,h⟩
 .cases op<;>simp only at h<;>first|cases h;done|(split at h;cases h;exact⟨_,rfl,h⟩)
 .cases h
theorem AN2(k:IntKind)(n:Int):(mkInt k n).fg=.int k (k.wrap n):=by cases k<;>simp only[mkInt,AQC]<;>rfl
theorem AHD:∀(n:Nat) (x:tD n),T7 (.st n)=true->(AUA n x).all flat=true|0,x,_=>rfl|1,x,h=>absurd h (by decide)|2,x,_=>rfl|3,x,_=>rfl|4,x,_=>rfl|5,x,_=>rfl|6,x,h=>absurd h (by decide)|7,x,h=>absurd h (by decide)|8,x,h=>absurd h (by decide)|9,x,_=>rfl|10,x,_=>rfl|11,x,h=>absurd h (by decide)|12,x,h=>absurd h (by decide)|13,x,h=>absurd h (by decide)|14,x,h=>absurd h (by decide)|15,x,_=>rfl|16,x,h=>absurd h (by decide)|17,x,h=>absurd h (by decide)|_+18,x,_=>rfl
theorem AHC{c:C}(h:T7 c=true)(x:c.D):(enc c x).all flat=true:=by
 cases c with
 |l c=>cases h
 |m=>cases h
 |st n=>exact AHD n x h|un n=>cases h
 |_=>rfl
theorem Ik{c:C}(h:T7 c=true)(xs:List c.D):F6 (xs.map (enc c))=true:=by
 grind[F6,List.all_map,List.all_eq_true,AHC]
theorem ARs{c:C}{fl:Bool}{S S':St}{l:AS}{ys:List c.D}(h:PG c fl S l=some (S',ys)):Lv.PG c.size fl (S.fg R) (AS.fg R l)=some (S'.fg R,ys.map (enc c))/\BO S S':=by
 unfold PG at h;split at h
 .rename_i s;split at h
  .rename_i xs j;cases h;have y:C.u=c:=by
    simp only[Rw.as]at j;split at j
    .rename_i y;exact y
    .cases j
   subst y;have:=bE j;simp only[AS.fg,U.fg,Lv.PG,C.size,if_true,<-this,Rw.fg];exact⟨rfl,BO.refl _⟩
  .cases h
 .cases h;exact⟨rfl,BO.refl _⟩
 .rename_i s J xs;split at h
  .rename_i G;split at h
   .rename_i I j;cases h;have y:J=c:=by
     simp only[Rw.as]at j;split at j
     .rename_i y;exact y
     .cases j
    subst y;have:=bE j;simp only[AS.fg,Lv.PG,Ik G,and_self,if_true,<-this,Rw.fg];exact⟨trivial,BO.refl _⟩
   .cases h
  .cases h
 .rename_i q sub;simp only[AS.fg,Lv.PG,KJ];split at h
  .rename_i x j;rw[j];split at h
   .rename_i w H;split at h
    .rename_i I E;have L:eOf c.size x.fg=true:=by
      cases x<;>simp[content]at H<;>subst H<;>simp only[U.fg,eOf];simp only[Rw.sub,Rw.as]at E;split at E
      .rename_i y;subst y;simp
      .cases E
     have B:=bE E;rw[APy]at B;simp only[An,AS.fg,UY H,L,if_true,B];cases fl with
     |true=>
      simp only[if_true]at h ⊢;split at h
      .rename_i G;cases h;rw[if_pos (Ik G _)];exact⟨rfl,BO.refl _⟩
      .cases h
     |false=>
      simp only[BA,if_false]at h ⊢;cases h;rw[Yn];exact⟨rfl,BO.out _ _⟩
    .cases h
   .cases h
  .cases h
 .cases h
theorem AKo{e:Option (Nat×Nat)}{x:Option ρ}{r:ρ}(h:gdo e x=some r):(∀a b,e=some (a,b)->a=b)/\x=some r:=by
 cases e with
 |none=>exact⟨by intros;contradiction,h⟩
 |some p=>
  obtain⟨a,b⟩:=p;obtain⟨j,q⟩:=Pq h
  grind
theorem uF{c:C}{S S':St}{l:AS}{b:U}{n:Nat}{e:Option (Nat×Nat)}(h:RU c S l=some (S',b,n,e))(Q:∀a b,e=some (a,b)->a=b):Lv.RU c.size (S.fg R) (AS.fg R l)=some (S'.fg R,b.fg,n)/\BO S S':=by
 unfold RU at h;split at h
 .cases h;exact⟨rfl,BO.refl _⟩
 .rename_i q sub;simp only[AS.fg,Lv.RU,KJ];split at h
  .rename_i x X;rw[X];split at h
   .rename_i w H;split at h
    .rename_i ys y;cases h;have E:eOf c.size x.fg=true:=by
      cases x<;>simp[content]at H<;>subst H<;>simp only[U.fg,eOf];simp only[Rw.as]at y;split at y
      .rename_i B;subst B;simp
      .cases y
     have I:=bE y;have G:toEnd sub (ys.map (enc c)).length=true:=by
      cases sub with
      |none=>rfl|some p=>
       obtain⟨lo,m⟩:=p;have:=Q _ _ rfl;simp[toEnd,this]
     simp only[An,AS.fg,UY H,I];rw[if_pos ⟨E,G⟩,Yn,XS];refine⟨?_,BO.out _ _⟩;rw[tO,<-Yz,Ah]
    .cases h
   .cases h
  .cases h
 .rename_i q i j Y xs;split at h
  .rename_i B;subst B;split at h
   .rename_i S1 J;cases h;obtain⟨L,O⟩:=AGI (R:=R) J;simp only[AS.fg,Lv.RU,if_true,L,U.fg,Ah];exact⟨trivial,O⟩
   .cases h
  .cases h
 .cases h
theorem ADL{c:C}{b u:U}{ys:List c.D}(h:AQU c b ys=some u):u.fg=AGq c.size b.fg (ys.map (enc c)):=by
 unfold AQU at h;split at h
 .grind[U.fg,AGq]
 .rename_i j;cases h;cases b<;>simp only[U.fg,AGq];exact(j _ _ rfl).elim
end
end Y
end Lv
namespace Lv
open Go (IntKind BinOp UnOp)
theorem OD{α β:Type}(f:α->β):∀(cs ls:List α) (o:Nat),DS (ls.map f) o (cs.map f)=(DS ls o cs).map f
 | [],ls,o=>by cases ls<;>rfl
 |c::cs,ls,o=>by
  simp only[AJ,DS];rw[<-Gy,OD f cs]
theorem jG{α:Type}(t:α):∀(cs ls:List α) (o b:Nat),o<=b->b<o+cs.length->DS (ls.set b t) o cs=DS ls o cs
 | [],ls,o,b,q,j=>by simp at j;omega|c::cs,ls,o,b,q,j=>by
  simp only[DS];by_cases h:b=o
  .subst h;rw[List.set_set]
  .rw[List.set_comm _ _ h];exact jG t cs _ _ _ (by omega) (by simp at j;omega)
namespace Y
section
variable{R:List GF}{ρ:Type}
theorem mU(r:B0)(i:Nat):∀(j:Nat) (us:List U),(JK r i j us).map (AS.fg R)=Lv.JK r i j (us.map U.fg)|_,[]=>rfl|j,u::us=>by simp only[JK,AJ,Lv.JK,mV,mU r i (j+1) us]
theorem nn{c:C}{xs:List c.D}{i:Int}{x:c.D}(h:at? xs i=some x):(xs.map (enc c))[i.toNat]?=some (enc c x):=ASn (enc c) h
theorem Qx{S:St}{n:Nat}{l:AS}{K:List AS->Option ρ}{r:ρ}(h:S.load n l K=some r):∃ls,(S.fg R).load n (AS.fg R l)=some (ls.map (AS.fg R))/\K ls=some r:=by
 unfold St.load at h;split at h
 .grind[AS.fg,Lv.St.load,Pm,List.length_map,ADJ,List.map_take,List.map_drop]
 .rename_i q i j;simp only[AS.fg,Lv.St.load,KJ];split at h
  .rename_i c xs G;rw[G];obtain⟨x,B,h⟩:=VT h;split at h
   .rename_i y;refine⟨_,?_,h⟩;have E:=nn B;simp only[An,AS.fg,U.fg,E,El,Ah,y,if_true,mU,CX,CI]
   .cases h
  .cases h
 .rename_i s cs;split at h
  .rename_i y;refine⟨_,?_,h⟩;simp only[AS.fg,Lv.St.load,Ah,y,if_true,AD];rw[<-CX,Da,Da];congr 1;funext u;exact(mV _ _).symm
  .cases h
 .cases h
theorem TG:∀ls:List AS,Lv.HU (ls.map (AS.fg R))=HU ls
 | []=>rfl|l::ls=>by
  have j:=TG ls;cases l with
  |t x=>cases x<;>first|rfl|exact j
  |und=>rfl|_=>exact j
theorem iX(b o n:Nat)(l:AS):Lv.Hj b o n (AS.fg R l)=Hj b o n l:=by
 grind[Lv.Hj,Hj,Ko,QT,Nat.ble,Nat.le_of_ble_eq_true,decide_eq_false_iff_not,Nat.ble_eq_true_of_le,Nat.blt]
def AAR:List T->List (Nat×Nat)->List T|row,[]=>row|row,(_,b)::hs=>AAR (row.set b .top) hs
theorem AAT:∀(j:List (Nat×Nat)) (row:List T),(AAR row j).length=row.length| [],row=>rfl|(a,b)::j,row=>by simp only[AAR,AAT j,List.length_set]
theorem YT(i:Nat):∀(j:List (Nat×Nat)) (X:List (List T)) (k:Nat),(∀p∈j,p.1=i)->(Mx X j)[k]?=if k=i then (X[i]?).map (fun row=>AAR row j) else X[k]?
 | [],X,k,h=>by
  grind[Mx,AAR]
 |(a,b)::j,X,k,h=>by
  have q:a=i:=h (a,b) (by simp);subst q;simp only[Mx];rw[YT a j _ k (fun p y=>h p (by simp[y]))];simp only[XG,if_true];split
  .cases X[a]? <;> rfl
  .rfl
theorem Zq(j:Nat)(ts:List T):∀(q:List (Nat×Nat)) (row:List T),(∀p∈q,j<=p.2/\p.2<j+ts.length)->DS (AAR row q) j ts=DS row j ts
 | [],row,h=>rfl|(a,b)::q,row,h=>by
  simp only[AAR];rw[Zq j ts q _ (fun p y=>h p (by simp[y]))];have:=h (a,b) (by simp);exact jG _ _ _ _ _ this.1 this.2
theorem gk{i j n:Nat}:∀{q:List (Nat×Nat)},MX i j n q->(∀p∈q,p.1=i)/\(∀p∈q,j<=p.2/\p.2<j+n)
 | [],_=>⟨by simp,by simp⟩|(a,b)::q,h=>by
  obtain⟨B,E,y⟩:=h;obtain⟨G,H⟩:=gk y
  grind
theorem AP1{n:Nat}{ls:List AS}{S S':St}{ls':List AS}(h:XU n S ls=some (S',ls')):Lv.XU n (S.fg R) (ls.map (AS.fg R))=some (S'.fg R,ls'.map (AS.fg R))/\BO S S':=by
 grind[XU,Lv.XU,Nat.blt_eq,QH,BO.refl]
theorem AJF{S:St}{n:Nat}{p:AS}{cs:List AS}{K:St->Option ρ}{r:ρ}(h:S.RI n p cs K=some r) :
 ∃S',(S.fg R).RI n (AS.fg R p) (cs.map (AS.fg R))=some (S'.fg R)/\BO S S'/\K S'=some r:=by
 unfold St.RI at h;split at h
 .rename_i id o;split at h
  .rename_i S1 E X;obtain⟨Y,J⟩:=AP1 (R:=R) X;split at h
   .cases h
   .rename_i ht;dsimp only at h;split at h
    .rename_i ls hl;split at h
     .rename_i y;refine⟨_,?_,(J.trans (BO.kill _ _)).trans (BO.OJ _ _ _),h⟩;simp only[AS.fg,Lv.St.RI,Y,TG,ht,BA,if_false,Ah];rw[Kh (iX id o E.length),Pm,hl];simp only[An,Ah,y,if_true];rw[Tj,ME (iX id o E.length),OD]
     .cases h
    .cases h
  .cases h
 .rename_i q i j;split at h
  .rename_i S1 us X;obtain⟨Y,J⟩:=Lc (R:=R) X;simp only[AS.fg,Lv.St.RI,Y,KJ];split at h
   .rename_i c xs hx;rw[hx];obtain⟨x,L,h⟩:=VT h;split at h
    .rename_i y;split at h
     .rename_i x' B;refine⟨_,?_,(J.trans (BO.Be _ _ _)).trans (BO.kill _ _),h⟩;have Z:=nn L;simp only[An,AS.fg,U.fg,Z,El,Ah,y,if_true,AD];rw[<-Kh (Q4 q),Gk];congr 2;simp only[AS.fg,U.fg];rw[Gy,IJ B,OD]
     .cases h
    .cases h
   .rename_i c xs I hx;rw[hx];obtain⟨x,L,h⟩:=VT h;split at h
    .rename_i y;split at h
     .rename_i x' B;obtain⟨hh,h⟩:=@Pq _ _ (ae i.toNat j us.length I) _ _ h;obtain⟨hr,G⟩:=gk hh;refine⟨_,?_,(J.trans (BO.Be _ _ _)).trans (BO.kill _ _),h⟩;have Z:=nn L;have O:=YT i.toNat I (xs.map (enc c)) i.toNat hr;rw[if_pos rfl,Z]at O;simp only[An]at O;simp only[An,AS.fg,O,AAT,Ob];have hl2:j+(us.map U.fg).length<=c.size:=by rw[Ah,<-Xh c x];exact y
      rw[if_pos hl2,<-Kh (Q4 q),Gk];congr 3;simp only[AS.fg,U.fg];have h7:DS (AAR (enc c x) I) j (us.map U.fg)=enc c x':=by
       rw[Zq _ _ _ _ (by rw[Ah];exact G),IJ B,El,OD]
      rw[h7];congr 1;congr 1;apply Ew;intro k;have hlt:i.toNat<xs.length:=(PM L).2.2.1;have H:i.toNat<(Mx (xs.map (enc c)) I).length:=(AO.1 O).1;rw[DZ,Aw,DZ];by_cases Q:i.toNat=k
      .subst Q;simp only[if_true,hlt,H,An]
      .rw[if_neg Q,if_neg Q,YT i.toNat I _ k hr,if_neg (fun h=>Q h.symm),Aw]
     .cases h
    .cases h
   .cases h
  .cases h
 .cases h
def erP(R:List GF)(p:Nat×Nat×YO):Nat×Nat×Opd:=(p.1,p.2.1,p.2.2.er R)
theorem kX{S:St}:∀{ps:List (Nat×Nat×YO)} {ls ls':List AS},MQ S ls ps=some ls'->Lv.MQ (S.fg R) (ls.map (AS.fg R)) (ps.map (erP R))=some (ls'.map (AS.fg R))
 | [],ls,ls',h=>by cases h;rfl
 |(o,n,x)::ps,ls,ls',h=>by
  simp only[MQ]at h;split at h
  .rename_i e q;split at h
   .rename_i j;have:=kX (ps:=ps) h;simp only[AJ,erP,Lv.MQ,LB q,En.fg,Ah,TG];rw[if_pos j,OD];exact this
   .cases h
  .cases h
def erQ(R:List GF)(p:Nat×YO):Nat×Opd:=(p.1,p.2.er R)
theorem AJo{c:C}{n:Nat}:∀{ps:List (Nat×YO)} {S S':St} {xs j:List c.D},bsK c n S xs ps=some (S',j) ->
 Lv.bsK c.size n (S.fg R) (xs.map (enc c)) (ps.map (erQ R))=some (S'.fg R,j.map (enc c))/\BO S S'
 | [],S,S',xs,j,h=>by cases h;exact⟨rfl,BO.refl _⟩
 |(i,x)::ps,S,S',xs,j,h=>by
  simp only[bsK]at h;split at h
  .rename_i e J;split at h
   .rename_i I;split at h
    .rename_i S1 us q;obtain⟨B,E⟩:=Lc (R:=R) q;split at h
     .rename_i y L;obtain⟨G,H⟩:=AJo (ps:=ps) h;simp only[AJ,erQ,Lv.bsK,LB J,En.fg,Ah];rw[if_pos I,B];dsimp only;rw[<-IJ L,<-Gy];exact⟨G,E.trans H⟩
     .cases h
    .cases h
   .cases h
  .cases h
theorem AJp{c:C}{n:Nat}{z:List T}:∀{ps:List (Nat×YO)} {S S':St} {ys:List c.D} (pre:List (List T)),bsL c n S ps=some (S',ys)->yw pre.length n ps=true->pre.length<=n ->
 Lv.bsK c.size n (S.fg R) (pre++List.replicate (n-pre.length) z) (ps.map (erQ R))=some (S'.fg R,pre++ys.map (enc c))/\BO S S'
 | [],S,S',ys,pre,h,j,Q=>by
  cases h;simp only[yw,beq_iff_eq]at j;simp only[BM,Lv.bsK,j,Dc,List.replicate_zero];exact⟨trivial,BO.refl _⟩
 |(i,x)::ps,S,S',ys,pre,h,j,Q=>by
  simp only[yw,AF,beq_iff_eq]at j;obtain⟨rfl,j⟩:=j;simp only[bsL]at h;split at h
  .rename_i e O;split at h
   .rename_i L;split at h
    .rename_i S1 us B;obtain⟨E,G⟩:=Lc (R:=R) B;split at h
     .rename_i y S2 Z Y J;cases h;have q:(pre++[enc c y]).length=pre.length+1:=by simp
      obtain⟨H,I⟩:=AJp (z:=z) (ps:=ps) (pre++[enc c y]) J (by rw[q];exact j) (by rw[q];omega);simp only[AJ,erQ,Lv.bsK,LB O,En.fg,Ah];rw[if_pos L,E];dsimp only;rw[<-IJ Y];have X:(pre++List.replicate (n-pre.length) z).set pre.length (enc c y)=(pre++[enc c y])++List.replicate (n-(pre++[enc c y]).length) z:=by
       rw[List.set_append_right _ _ (Ab _),Dc,q];have:n-pre.length=(n-(pre.length+1))+1:=by omega
       rw[this,List.replicate_succ];simp
      rw[X];refine⟨?_,G.trans I⟩;simpa[erQ] using H
     .cases h
    .cases h
   .cases h
  .cases h
theorem N6{S:St}{len:Nat}{lo hi:Option YO}{K:Nat->Nat->Option ρ}{r:ρ}(h:range S len lo hi K=some r) :
 ∃a b,(S.fg R).range len (lo.map (YO.er R)) (hi.map (YO.er R))=some (a,b)/\K a b=some r/\∀{α:Type} (xs:List α),xs.length=len->part lo hi xs a b=(xs.drop a).take (b-a):=by
 unfold range at h
 grind[part,Lv.St.range,Lv.St.AN3,Pq,Si,List.take_of_length_le]
theorem Wn:∀(q:List (Nat×Nat)) (X:List (List T)),(Mx X q).length=X.length| [],_=>rfl|(i,j)::q,X=>by rw[Mx,Wn q];simp[Ir]
theorem Tr{S:St}{c:C}{l:AS}(h:S.wide c l=true)(y:(∃s j xs,l=.vw s j xs)\/(∃q sub,l=.al q sub)\/l=.t .nil):(S.fg R).wide c.size (AS.fg R l)=true:=by
 rcases y with ⟨s,j,xs,rfl⟩|⟨q,sub,rfl⟩|rfl
 .simp only[St.wide,decide_eq_true_eq]at h;subst h;simp[AS.fg,Lv.St.wide]
 .simp only[St.wide]at h;simp only[AS.fg,Lv.St.wide,KJ];split at h
  .rename_i x B;rw[B];simp only[An,AS.fg];cases x<;>simp only[U.fg,eOf];simp only[decide_eq_true_eq]at h;subst h;simp
  .grind[AS.fg,eOf]
  .cases h
 .rfl
theorem AHe{off:Nat}{p q:AS}(h:Mg off p=some q):Lv.Mg off (AS.fg R p)=some (AS.fg R q):=by
 cases p<;>simp only[Mg]at h<;>first
  |cases h;done
  |(cases h;simp only[AS.fg,Lv.Mg,CI])
theorem ANn(p:AS):Lv.St.RZ (AS.fg R p)=RZ p:=by cases p<;>rfl
theorem ASw{l:AS}{c:Cap}(h:l.ASu=some c):c.fg=AS.fg R l/\(AS.fg R l).plain=true:=by
 unfold AS.ASu at h;split at h<;>first|cases h;done|(cases h;exact⟨rfl,rfl⟩)
theorem kR:∀{es:List En} {cs:List Cap},ng es=some cs->((es.map (En.fg R)).all fun e=>Lv.yx e.sh&&e.cs.length==1&&e.cs.all Lv.AS.plain)=true/\(es.map (En.fg R)).flatMap Lv.Ent.cs=cs.map Cap.fg
 | [],cs,h=>by cases h;exact⟨rfl,rfl⟩
 |e::es,cs,h=>by
  unfold ng at h;split at h
  .rename_i j;cases j
  .rename_i l y j;cases j;split at h
   .rename_i c q B E;cases h;obtain⟨G,H⟩:=kR E;obtain⟨I,J⟩:=ASw (R:=R) B;constructor
    .rw[AJ,List.all_cons,G];simp[En.fg,Lv.yx,J]
    .simp only[AJ,List.flatMap_cons,H,En.fg,BM,List.singleton_append,I]
   .cases h
  .cases h
end
end Y
end Lv
namespace Lv
open Go (IntKind BinOp UnOp)
namespace Y
section
variable{R:List GF}{ρ:Type}
def zsC(c:C):List T:=match AAc c with|some z=>enc c z|none=>[]
theorem ADH{c:C}{z:c.D}(h:AAc c=some z):zsC c=enc c z:=by unfold zsC;rw[h]
def YOp.er:YOp R->XOp|.mv d x=>.mv d (x.er R)|.as d x=>.as d (x.er R)|.pick d c a b=>.pick d (c.er R) (a.er R) (b.er R)|.alloc d zs=>.alloc d (zs.map U.fg)|.box d x=>.box d (x.er R)|.build d zs ps=>.build d (zs.map U.fg) (ps.map (erP R))|.Br d n c ps=>.Br d n (zsC c) (ps.map (erQ R))|.ld d n x=>.ld d n (x.er R)|.st n x v=>.st n (x.er R) (v.er R)|.chk d x=>.chk d (x.er R)|.bin d c op x y=>.bin d c op (x.er R) (y.er R)|.un d op x=>.un d op (x.er R)|.cvI d k x=>.cvI d k (x.er R)|.QW d x=>.QW d (x.er R)|.Rt d x=>.Rt d (x.er R)|.N2 d n caps=>.N2 d (xr R n) (caps.map (YO.er R))|.Ux d c n=>.Ux d (zsC c) (n.er R) (n.er R)|.sub d c x lo hi=>.sub d c.size (x.er R) (lo.map (YO.er R)) (hi.map (YO.er R))|.VF d x lo hi=>.VF d (x.er R) (lo.map (YO.er R)) (hi.map (YO.er R))|.fa d off x=>.fa d off (x.er R)|.fld d off n x=>.fld d off n (x.er R)|.ia d c x i=>.ia d c.size (x.er R) (i.er R)|.ix d x i=>.ix d (x.er R) (i.er R)|.ext d x i=>.ext d (x.er R) i|.call d g _ _ args=>.call d g.x (args.map (YO.er R))|.D8 d x ms args=>.D8 d (x.er R) ms (args.map (YO.er R))|.len d x=>.len d (x.er R)|.lens d x=>.lens d (x.er R)|.app d c fl x y=>.app d c.size fl (x.er R) (y.er R)|.Tv d c x n=>.Tv d (zsC c) (x.er R) (n.er R)|.cpy d c x y=>.cpy d c.size (x.er R) (y.er R)|.mm d m x y=>.mm d m (x.er R) (y.er R)|.mmk d=>.mmk d|.Tw d x k=>.Tw d (x.er R) (k.er R)|.Sg x k v=>.Sg (x.er R) (k.er R) (v.er R)|.Tx d x=>.Tx d (x.er R)|.bad d=>.bad d|.drop ds=>.drop ds|.Uz ns=>.Uz (ns.map fun p=>(p.1,p.2.size))
def Plain(o:YOp R)(S:St)(K:St->Option ρ)(r:ρ):Prop:=∃S',Lv.ev o.er (S.fg R)=some (S'.fg R)/\BO S S'/\K S'=some r
theorem CM{o:YOp R}{S S1:St}{d:Nat}{sh:Sh}{cs:List AS}{K:St->Option ρ}{r:ρ}(h:Gv S1 d sh cs K=some r)(E:BO S S1)(B:Lv.ev o.er (S.fg R)=(S1.fg R).Dg d ⟨sh,cs.map (AS.fg R)⟩):Plain o S K r:=by
 obtain⟨S',j,q,y⟩:=aq (R:=R) h;exact⟨S',B.trans j,E.trans q,y⟩
variable{S:St}{K:St->Option ρ}{r:ρ}
theorem AOI{d:Nat}{x:YO}(h:ev (.mv d x:YOp R) S K=some r):Plain (.mv d x:YOp R) S K r:=by
 simp only[ev]at h;split at h
 .rename_i e j;exact CM h (BO.refl _) (by simp only[YOp.er,Lv.ev,LB j,En.fg])
 .cases h
theorem AOD{d:Nat}{x:YO}(h:ev (.as d x:YOp R) S K=some r):Plain (.as d x:YOp R) S K r:=by
 simp only[ev]at h;split at h
 .rename_i e B;split at h
  .rename_i S1 cs j;obtain⟨q,y⟩:=QH (R:=R) j;exact CM h y (by simp only[YOp.er,Lv.ev,LB B,En.fg,q])
  .cases h
 .cases h
theorem sN{d:Nat}{c a b:YO}(h:ev (.pick d c a b:YOp R) S K=some r):Plain (.pick d c a b:YOp R) S K r:=by
 simp only[ev]at h;split at h
 .rename_i t ea eb q y B;rcases ADP h with ⟨rfl,j⟩|⟨rfl,j⟩
  .exact CM j (BO.refl _) (by simp only[YOp.er,Lv.ev,Ol q,LB y,LB B,U.fg,En.fg,if_true])
  .exact CM j (BO.refl _) (by simp only[YOp.er,Lv.ev,Ol q,LB y,LB B,U.fg,En.fg,BA,if_false])
 .cases h
theorem iV{d:Nat}{j:List U}(h:ev (.alloc d j:YOp R) S K=some r):Plain (.alloc d j:YOp R) S K r:=by
 simp only[ev]at h;obtain⟨S',q,y,B⟩:=iN (R:=R) h;refine⟨S',?_,y,B⟩;rw[<-q];simp only[YOp.er,Lv.ev,Lv.P0,Da];rfl
theorem ACb{d:Nat}{x:YO}(h:ev (.box d x:YOp R) S K=some r):Plain (.box d x:YOp R) S K r:=by
 simp only[ev]at h;split at h
 .rename_i e G;split at h
  .rename_i S1 cs j;obtain⟨q,y⟩:=AQi (R:=R) j;split at h
   .cases h
   .rename_i I;obtain⟨S',H,B,E⟩:=iN (R:=R) h;refine⟨S',?_,y.trans B,E⟩;simp only[YOp.er,Lv.ev,LB G,En.fg,q,TG,Ah]
    grind[ME,Lv.EO,Lv.E5,Wx,Ww,Lv.P0]
  .cases h
 .cases h
theorem iW{d:Nat}{j:List U}{ps:List (Nat×Nat×YO)}(h:ev (.build d j ps:YOp R) S K=some r):Plain (.build d j ps:YOp R) S K r:=by
 simp only[ev]at h;split at h
 .rename_i ls q;have:=kX (R:=R) q;rw[Da]at this;refine CM h (BO.refl _) ?_;simp only[YOp.er,Lv.ev,Da];rw[show (Lv.AS.t∘U.fg)=(AS.fg R∘AS.t) from rfl,this]
 .cases h
theorem Yk{d n:Nat}{c:C}{ps:List (Nat×YO)}(h:ev (.Br d n c ps:YOp R) S K=some r):Plain (.Br d n c ps:YOp R) S K r:=by
 simp only[ev]at h;split at h
 .rename_i z E;split at h
  .rename_i y;split at h
   .rename_i S1 xs j;have q:Lv.bsK c.size n (S.fg R) (rowsOf n (enc c z)) (ps.map (erQ R))=some (S1.fg R,xs.map (enc c))/\BO S S1:=by
     split at j
     .rename_i B;have:=AJp (R:=R) (z:=enc c z) [] j B (Nat.zero_le _);simpa[rowsOf] using this
     .have:=AJo (R:=R) j;rw[GH]at this;exact this
    refine CM h q.2 ?_;simp only[YOp.er,Lv.ev,ADH E,Ob];rw[if_pos y,q.1];rfl
   .cases h
  .cases h
 .cases h
theorem AOH{d:Nat}{n:Option Nat}{x:YO}(h:ev (.ld d n x:YOp R) S K=some r):Plain (.ld d n x:YOp R) S K r:=by
 simp only[ev]at h;split at h
 .rename_i p q;obtain⟨ls,j,h⟩:=Qx (R:=R) h
  grind[CM,BO.refl,YOp.er,Lv.ev,EY]
 .cases h
theorem AOJ{n:Nat}{x v:YO}(h:ev (.st n x v:YOp R) S K=some r):Plain (.st n x v:YOp R) S K r:=by
 simp only[ev]at h;split at h
 .rename_i p e G E;split at h
  .rename_i B;obtain⟨S',j,q,y⟩:=AJF (R:=R) h;refine⟨S',?_,q,y⟩;simp only[YOp.er,Lv.ev,EY G,LB E,En.fg,Ah];rw[if_pos B,j]
  .cases h
 .cases h
theorem ACc{d:Nat}{x:YO}(h:ev (.chk d x:YOp R) S K=some r):Plain (.chk d x:YOp R) S K r:=by
 simp only[ev]at h
 grind[CM,BO.refl,YOp.er,Lv.ev,EY,ANn]
theorem ACa{d:Nat}{c:Cls}{op:BinOp}{x y:YO}(h:ev (.bin d c op x y:YOp R) S K=some r):Plain (.bin d c op x y:YOp R) S K r:=by
 simp only[ev]at h;split at h
 .rename_i ex ey j q;obtain⟨u,B,h⟩:=ASq (R:=R) h;exact CM h (BO.refl _) (by simp only[YOp.er,Lv.ev,LB j,LB q,B];rfl)
 .cases h
theorem AOK{d:Nat}{op:UnOp}{x:YO}(h:ev (.un d op x:YOp R) S K=some r):Plain (.un d op x:YOp R) S K r:=by
 simp only[ev]at h;split at h
 .rename_i a j;obtain⟨u,q,h⟩:=ATr h;exact CM h (BO.refl _) (by simp only[YOp.er,Lv.ev,Ol j,q];rfl)
 .cases h
theorem ACe{d:Nat}{k:IntKind}{x:YO}(h:ev (.cvI d k x:YOp R) S K=some r):Plain (.cvI d k x:YOp R) S K r:=by
 simp only[ev]at h
 grind[CM,BO.refl,YOp.er,Lv.ev,Si,AS.fg,AN2]
theorem sG{d:Nat}{x:YO}(h:ev (.QW d x:YOp R) S K=some r):Plain (.QW d x:YOp R) S K r:=by
 simp only[ev]at h;split at h
 .rename_i s j;exact CM h (BO.refl _) (by simp only[YOp.er,Lv.ev,Ol j,U.fg];rfl)
 .cases h
theorem sF{d:Nat}{x:YO}(h:ev (.Rt d x:YOp R) S K=some r):Plain (.Rt d x:YOp R) S K r:=by
 simp only[ev]at h;split at h
 .rename_i l y;split at h
  .rename_i w G;split at h
   .rename_i j E;have q:=Pk (R:=R) G;rw[bE E]at q;refine CM h (BO.refl _) ?_;have B:bytesOf (j.map (enc .u))=some j:=uI j;simp only[YOp.er,Lv.ev,EY y,q,B];rfl
   .cases h
  .cases h
 .cases h
theorem sJ{d n:Nat}{caps:List YO}(h:ev (.N2 d n caps:YOp R) S K=some r):Plain (.N2 d n caps:YOp R) S K r:=by
 simp only[ev]at h;split at h
 .rename_i es B;split at h
  .rename_i cs y;obtain⟨j,q⟩:=kR (R:=R) y;refine CM h (BO.refl _) ?_;simp only[YOp.er,Lv.ev,Yt B];rw[if_pos j,q];rfl
  .cases h
 .cases h
theorem sK{d:Nat}{c:C}{n:YO}(h:ev (.Ux d c n:YOp R) S K=some r):Plain (.Ux d c n:YOp R) S K r:=by
 simp only[ev]at h;split at h
 .grind[Pq,CM,BO.refl,YOp.er,Lv.ev,Si,ADH,Ob,rowsOf,AS.fg,U.fg,List.map_replicate]
 .cases h
theorem sO{d:Nat}{x:YO}{lo hi:Option YO}(h:ev (.VF d x lo hi:YOp R) S K=some r):Plain (.VF d x lo hi:YOp R) S K r:=by
 simp only[ev]at h;split at h
 .rename_i s y;obtain⟨a,b,j,h,q⟩:=N6 (R:=R) h;rw[q s rfl]at h;exact CM h (BO.refl _) (by simp only[YOp.er,Lv.ev,Ol y,U.fg,j];rfl)
 .cases h
theorem AKb{q:B0}{sub:Option (Nat×Nat)}{w:Rw}{c:C}{xs:List c.D}(h:S.elems (.al q sub)=some w)(j:w.as c=some xs):(S.fg R).elems (.al q sub)=some (xs.map (enc c)):=by
 have:=Pk (R:=R) h;rw[bE j]at this;exact this
theorem ACj{d:Nat}{c:C}{x:YO}{lo hi:Option YO}(h:ev (.sub d c x lo hi:YOp R) S K=some r):Plain (.sub d c x lo hi:YOp R) S K r:=by
 simp only[ev]at h;split at h
 .rename_i l G;split at h
  .rename_i H;split at h
   .rename_i q sub;have j:=Tr (R:=R) H (.inr (.inl ⟨_,_,rfl⟩));split at h
    .rename_i w I;split at h
     .rename_i xs J;obtain⟨a,b,B,h,_⟩:=N6 (R:=R) h;have E:=AKb (R:=R) I J;have y:=EY (R:=R) G;simp only[AS.fg]at j y;refine CM h (BO.refl _) ?_;simp only[YOp.er,Lv.ev,y,j,if_true,E,Ah,B];cases sub with|none=>rfl|some p=>rfl
     .cases h
    .cases h
   .rename_i s L xs;have j:=Tr (R:=R) H (.inl ⟨_,_,_,rfl⟩);obtain⟨a,b,B,h,E⟩:=N6 (R:=R) h;rw[E xs rfl]at h;have y:=EY (R:=R) G;simp only[AS.fg]at j y;refine CM h (BO.refl _) ?_;simp only[YOp.er,Lv.ev,y,j,if_true,Lv.St.elems,Ah,B,AJ,BM,AS.fg,CX,CI]
   .obtain⟨a,b,B,h,_⟩:=N6 (R:=R) h;have j:=Tr (R:=R) H (.inr (.inr rfl));have y:=EY (R:=R) G;simp only[AS.fg,U.fg]at j y;refine CM h (BO.refl _) ?_;simp only[YOp.er,Lv.ev,y,j,if_true,Lv.St.elems,AP,B,AJ,BM,AS.fg,U.fg]
   .cases h
  .cases h
 .cases h
theorem AOE{d off:Nat}{x:YO}(h:ev (.fa d off x:YOp R) S K=some r):Plain (.fa d off x:YOp R) S K r:=by
 simp only[ev]at h;split at h
 .rename_i p j;split at h
  .rename_i q y;exact CM h (BO.refl _) (by simp only[YOp.er,Lv.ev,EY j,AHe y];rfl)
  .cases h
 .cases h
theorem ACg{d off:Nat}{n:Option Nat}{x:YO}(h:ev (.fld d off n x:YOp R) S K=some r):Plain (.fld d off n x:YOp R) S K r:=by
 simp only[ev]at h;split at h
 .rename_i cs q;split at h
  .rename_i j;refine CM h (BO.refl _) ?_;simp only[YOp.er,Lv.ev,LB q,En.fg,Ah,j,if_true,CX,CI]
  .cases h
 .cases h
theorem AOF{d:Nat}{c:C}{x i:YO}(h:ev (.ia d c x i:YOp R) S K=some r):Plain (.ia d c x i:YOp R) S K r:=by
 simp only[ev]at h;split at h
 .rename_i l n I J;split at h
  .rename_i O;split at h
   .rename_i q sub;have j:=Tr (R:=R) O (.inr (.inl ⟨_,_,rfl⟩));split at h
    .rename_i H xs X;obtain⟨y,G,h⟩:=VT h;have L:=Pk (R:=R) X;have E:=EY (R:=R) I;simp only[AS.fg]at j E L;have B:=PM G;refine CM h (BO.refl _) ?_;simp only[YOp.er,Lv.ev,E,Si J,L,Rw.fg,Ah];rw[if_pos ⟨j,B.1,B.2.1⟩];cases sub with
     |none=>rfl|some p=>
      obtain⟨lo,m⟩:=p;simp only[AJ,BM,AS.fg];congr 5;have:=B.1;omega
    .split at h
     .split at h
      .rename_i H xs Z Y;obtain⟨y,G,h⟩:=VT h;have E:=EY (R:=R) I;simp only[AS.fg]at j E;have B:=PM G;refine CM h (BO.refl _) ?_;simp only[YOp.er,Lv.ev,E,Si J,Lv.St.elems,KJ,Y,An,AS.fg,Lv.content,Lv.JM,Wn,Ah];rw[if_pos ⟨j,B.1,B.2.1⟩];rfl
      .cases h
     .cases h
   .rename_i s H xs;have j:=Tr (R:=R) O (.inl ⟨_,_,_,rfl⟩);obtain⟨y,G,h⟩:=VT h;have E:=EY (R:=R) I;simp only[AS.fg]at j E;have B:=PM G;refine CM h (BO.refl _) ?_;simp only[YOp.er,Lv.ev,E,Si J,Lv.St.elems,Ah];rw[if_pos ⟨j,B.1,B.2.1⟩];have Q:(xs.map (enc H)).getD n.toNat []=(cells H y).map U.fg:=by
     rw[A0,nn G,J4,El]
    rw[Q];rfl
   .cases h
  .cases h
 .cases h
theorem AOG{d:Nat}{x i:YO}(h:ev (.ix d x i:YOp R) S K=some r):Plain (.ix d x i:YOp R) S K r:=by
 simp only[ev]at h;split at h
 .rename_i s n B q;obtain⟨y,E,h⟩:=VT h;have j:=PM E;refine CM h (BO.refl _) ?_;simp only[YOp.er,Lv.ev,Ol B,U.fg,Si q];rw[if_pos ⟨j.1,j.2.1⟩];have:s.getD n.toNat 0=y:=by rw[A0,j.2.2.2.1,J4]
  rw[this];rfl
 .cases h
theorem ACf{d:Nat}{x:YO}{i:Nat}(h:ev (.ext d x i:YOp R) S K=some r):Plain (.ext d x i:YOp R) S K r:=by
 simp only[ev]at h;split at h
 .rename_i s;split at h
  .rename_i ns cs v E;split at h
   .rename_i n G;split at h
    .rename_i B;split at h
     .rename_i S1 ls q;obtain⟨j,y⟩:=QH (R:=R) q;refine CM h y ?_;simp only[YOp.er,YO.er,Lv.ev,Wd,E,An,Ent.fg,G,Ah,B,if_true];rw[CX,CI,nd]at j;rw[j]
     .cases h
    .cases h
   .cases h
  .cases h
 .cases h
theorem sH{d:Nat}{x:YO}(h:ev (.lens d x:YOp R) S K=some r):Plain (.lens d x:YOp R) S K r:=by
 simp only[ev]at h;split at h
 .rename_i s j;exact CM h (BO.refl _) (by simp only[YOp.er,Lv.ev,Ol j,U.fg];rfl)
 .cases h
theorem ACh{d:Nat}{x:YO}(h:ev (.len d x:YOp R) S K=some r):Plain (.len d x:YOp R) S K r:=by
 simp only[ev]at h;split at h
 .rename_i l y;split at h
  .rename_i c xs q;have j:=Pk (R:=R) q;exact CM h (BO.refl _) (by simp only[YOp.er,Lv.ev,EY y,j,Rw.fg,Ah];rfl)
  .rename_i q;have j:=Pk (R:=R) q;exact CM h (BO.refl _) (by simp only[YOp.er,Lv.ev,EY y,j,Rw.fg,AP];rfl)
  .cases h
 .cases h
theorem ACZ{d:Nat}{c:C}{fl:Bool}{x y:YO}(h:ev (.app d c fl x y:YOp R) S K=some r):Plain (.app d c fl x y:YOp R) S K r:=by
 simp only[ev]at h;split at h
 .rename_i lx ly O Q;split at h
  .rename_i S1 ys j;obtain⟨q,B⟩:=ARs (R:=R) j;split at h
   .rename_i S2 b n e E;obtain⟨J,h⟩:=AKo h;obtain⟨G,H⟩:=uF (R:=R) E J;obtain⟨I,h⟩:=Pq h;split at h
    .rename_i u L;refine CM h (B.trans H) ?_;simp only[YOp.er,Lv.ev,EY O,EY Q,q,G,Ah];rw[if_pos I,<-ADL L];rfl
    .cases h
   .cases h
  .cases h
 .cases h
theorem sE{d:Nat}{c:C}{x n:YO}(h:ev (.Tv d c x n:YOp R) S K=some r):Plain (.Tv d c x n:YOp R) S K r:=by
 simp only[ev]at h;split at h
 .rename_i lx k z J H L;obtain⟨j,h⟩:=Pq h;split at h
  .rename_i S2 b m e q;obtain⟨G,h⟩:=AKo h;obtain⟨y,B⟩:=uF (R:=R) q G;obtain⟨E,h⟩:=Pq h;split at h
   .rename_i u I;refine CM h B ?_;simp only[YOp.er,Lv.ev,EY J,Si H,ADH L,Ob];rw[if_pos j]
    try dsimp only
    rw[y]
    try dsimp only
    rw[if_pos E];have:=ADL I;rw[GH]at this;simp only[rowsOf,<-this,AJ,BM,AS.fg]
   .cases h
  .cases h
 .cases h
theorem ACd{d:Nat}{c:C}{x y:YO}(h:ev (.cpy d c x y:YOp R) S K=some r):Plain (.cpy d c x y:YOp R) S K r:=by
 simp only[ev]at h;split at h
 .rename_i q ly hx hy;split at h
  .rename_i O B w X J;split at h
   .rename_i ys xs hys j;split at h
    .rename_i E;obtain⟨hne,h⟩:=Pq h;have Y:O=c:=by
      simp only[Rw.as]at j;split at j
      .rename_i E;exact E
      .cases j
     subst Y;have Z:B=xs:=by simp only[Rw.as]at j;simpa using j
     subst Z;have Q:=Pk (R:=R) J;rw[bE hys]at Q;have h3:=EY (R:=R) hx;simp only[AS.fg]at h3;have H:(S.fg R).wide O.size (AS.fg R ly)=true:=by
      refine Tr E.1 ?_;unfold St.elems at J;split at J
      .exact .inr (.inl ⟨_,_,rfl⟩)
      .exact .inl ⟨_,_,_,rfl⟩
      .exact .inr (.inr rfl)
      .cases J
     have G:(B.map (enc O)).isEmpty=false:=by cases B<;>simp_all
     have I:=EY (R:=R) hy;generalize AS.fg R ly=L at I Q H;refine CM h ((BO.Be _ _ _).trans (BO.kill _ _)) ?_;simp only[YOp.er,Lv.ev,h3,I,KJ,X,An,AS.fg,U.fg,Q];rw[if_pos ⟨trivial,H,Ik E.2 _,Ik E.2 _,G⟩,<-Kh (Q4 q),Gk];simp only[AS.fg,U.fg,DQ,CX,CI,Ah,AJ,BM]
    .cases h
   .cases h
  .cases h
 .cases h
theorem AGF{d:Nat}{m:Bool}{x y:YO}(h:ev (.mm d m x y:YOp R) S K=some r):Plain (.mm d m x y:YOp R) S K r:=by
 simp only[ev]at h;split at h
 .rename_i k a E b j q;split at h
  .rename_i B;exact CM h (BO.refl _) (by simp only[YOp.er,Lv.ev,Ol j,Ol q,U.fg];rw[if_pos B];rfl)
  .cases h
 .cases h
theorem iI{x:YO}{q:B0}{ks:List (Int×Int)}(h:S.Px x=some (q,ks)):(S.fg R).Px (x.er R)=some (q,ks):=by
 unfold St.Px at h;split at h
 .rename_i E j;split at h
  .rename_i y B;cases h;have:=EY (R:=R) j
   grind[AS.fg,Lv.St.Px,KJ,U.fg]
  .cases h
 .cases h
theorem ACi{d:Nat}(h:ev (.mmk d:YOp R) S K=some r):Plain (.mmk d:YOp R) S K r:=by
 simp only[ev]at h;exact CM h (BO.refl _) (by simp only[YOp.er,Lv.ev];rfl)
theorem sI{d:Nat}{x k:YO}(h:ev (.Tw d x k:YOp R) S K=some r):Plain (.Tw d x k:YOp R) S K r:=by
 simp only[ev]at h;split at h
 .rename_i q ks n j y;exact CM h (BO.refl _) (by simp only[YOp.er,Lv.ev,iI j,Ol y,U.fg];rfl)
 .cases h
theorem sL{d:Nat}{x:YO}(h:ev (.Tx d x:YOp R) S K=some r):Plain (.Tx d x:YOp R) S K r:=by
 simp only[ev]at h;split at h
 .rename_i q ks j;exact CM h (BO.refl _) (by simp only[YOp.er,Lv.ev,iI j];rfl)
 .cases h
theorem sM{x k v:YO}(h:ev (.Sg x k v:YOp R) S K=some r):Plain (.Sg x k v:YOp R) S K r:=by
 simp only[ev]at h;split at h
 .rename_i q ks n m j y B;refine⟨_,?_,(BO.Be _ _ _).trans (BO.kill _ _),h⟩;simp only[YOp.er,Lv.ev,iI j,Ol y,Ol B,U.fg];rw[<-Kh (Q4 q),Gk];rfl
 .cases h
theorem AFo{o:YOp R}(h:ev o S K=some r):∃S',BO S S'/\K S'=some r/\∀N:Lv.St->Prop,N (S'.fg R)->opK Ji o.er (S.fg R) N:=by
 have pl:Plain o S K r->∃S',BO S S'/\K S'=some r/\∀N:Lv.St->Prop,N (S'.fg R)->opK Ji o.er (S.fg R) N:=fun ⟨S',j,q,y⟩=>⟨S',q,y,fun N hN=>.inl ⟨_,j,hN⟩⟩
 cases o with
 |mv=>exact pl (AOI h)|as=>exact pl (AOD h)|pick=>exact pl (sN h)|alloc=>exact pl (iV h)|box=>exact pl (ACb h)|build=>exact pl (iW h)|Br=>exact pl (Yk h)|ld=>exact pl (AOH h)|st=>exact pl (AOJ h)|chk=>exact pl (ACc h)|bin=>exact pl (ACa h)|un=>exact pl (AOK h)|cvI=>exact pl (ACe h)|QW=>exact pl (sG h)|Rt=>exact pl (sF h)|N2=>exact pl (sJ h)|Ux=>exact pl (sK h)|sub=>exact pl (ACj h)|VF=>exact pl (sO h)|fa=>exact pl (AOE h)|fld=>exact pl (ACg h)|ia=>exact pl (AOF h)|ix=>exact pl (AOG h)|ext=>exact pl (ACf h)|len=>exact pl (ACh h)|lens=>exact pl (sH h)|app=>exact pl (ACZ h)|Tv=>exact pl (sE h)|cpy=>exact pl (ACd h)|mm=>exact pl (AGF h)|mmk=>exact pl (ACi h)|Tw=>exact pl (sI h)|Sg=>exact pl (sM h)|Tx=>exact pl (sL h)|bad=>simp[ev]at h|drop Q=>exact pl ⟨_,by simp only[YOp.er,Lv.ev,yP],BO.Hs _ _,h⟩|Uz ns=>exact pl ⟨_,by simp only[YOp.er,Lv.ev,re],BO.Q1 _ _,h⟩|call d g fs I args=>
  simp only[ev]at h;split at h
  .rename_i es G;obtain⟨S1,vs,cs,outs,S',j,q,y,B,E⟩:=uM (Al.of I) h;refine⟨S',B,E,fun N hN=>.inr ⟨d,g.x,es.map (En.fg R),S1,vs,_,cs,outs,_,?_,j,q,y,hN⟩⟩;simp only[YOp.er,Lv.E9,Yt G]
  .cases h
 |D8 d x ms args=>
  simp only[ev]at h;split at h
  .rename_i n caps es H G;split at h
   .rename_i g J;split at h
    .rename_i L;obtain⟨S1,vs,cs,outs,S',j,q,y,B,E⟩:=uM (Al.nil _) h;refine⟨S',B,E,fun N hN=>.inr ⟨d,g.x,_,S1,vs,_,cs,outs,_,?_,j,q,y,hN⟩⟩;have O:xr R n=g.x:=by unfold xr;rw[J]
     simp only[YOp.er,Lv.E9,EY H,Yt G,AS.fg,O];rw[if_pos (by rw[g.ms,L])];simp only[DQ,Da,AD,Prod.mk.injEq,true_and,List.append_cancel_left_eq];apply List.map_congr_left;intro c _;simp only[Function.comp,En.fg,AJ,BM,Y9]
    .cases h
   .cases h
  .cases h
end
end Y
end Lv
namespace Lv
open Go (IntKind BinOp UnOp)
namespace Y
section
variable{R:List GF}{ρ:Type}
def Bd.er:Bd R->Rf|.nil=>.nil|.op i g sf o rest=>.op i g sf o.er rest.er|.dr ds rest=>.dr ds rest.er|.nl ns rest=>.nl (ns.map fun p=>(p.1,p.2.size)) rest.er|.both _ a b=>.both a.er b.er
def F7.er:F7 R->NZ|.skip=>.skip|.region ops _=>.region (ops.map fun p=>(p.1,p.2.er)) []|.Pj r _=>.Pj r.er []|.seq a b=>.seq a.er b.er|.join _ a b=>.seq a.er b.er|.cond c _ _ t e=>.cond c [] [] t.er e.er|.block id b=>.block id b.er|.loop _ b=>.loop b.er|.exit id=>.exit id|.ret=>.ret|.scope b=>.scope b.er|.or a b=>.or a.er b.er|.dead=>.dead|.ARY _ b=>.loop b.er
theorem AS2(o:YOp R):o.er.gA=o.gA:=by cases o<;>rfl
theorem jJ{o:YOp R}{S:St}{K:St->Option ρ}{r:ρ}(h:MK o S K=some r):∃S',Lv.MK o.er (S.fg R)=some (S'.fg R)/\BO S S'/\K S'=some r:=by
 unfold MK at h;unfold Lv.MK;rw[AS2];split at h
 .rename_i d B;obtain⟨S',j,q,y⟩:=aq (R:=R) h;rw[B];exact⟨S',j,q,y⟩
 grind[BO.refl]
theorem APd{s:Nat}{e x:Ent}:∀{l:List (Nat×Ent)},get l s=some x->e.fg R=x.fg R->fgE R (reE s e l)=fgE R l
 | [],h,_=>rfl|(k,y)::l,h,q=>by
  simp only[get]at h;simp only[reE];cases j:Nat.beq k s with
  |true=>rw[j]at h;cases h;simp only[fgE,AJ,q]
  |false=>
   rw[j]at h;have:=APd (l:=l) h q
   grind[fgE]
theorem AFs{s:Nat}{e:Ent}:∀{l:List (Nat×Ent)} {k:Nat} {y:Ent},get (reE s e l) k=some y->y=e\/get l k=some y
 | [],k,y,h=>.inr h|(j,x)::l,k,y,h=>by
  simp only[reE]at h;cases B:Nat.beq j s with
  |true=>
   grind[get,Nat.beq]
  |false=>
   rw[B]at h;simp only[get]at h ⊢;cases q:Nat.beq j k with
   |true=>rw[q]at h;exact .inr h|false=>rw[q]at h;exact AFs h
theorem ATG{S:St}{s:Nat}{b:Bool}{v:Nat}(h:get S.tm s=some ⟨.one,[.t (.bool b)],v⟩):(S.lit s b).fg R=S.fg R/\BO S (S.lit s b):=by
 refine⟨?_,by simp[St.lit],fun k e q y=>?_,fun _ _ h _=>h,rfl⟩
 .simp only[St.fg,St.lit];have:=APd (R:=R) (e:=⟨.one,[.t (.bool b)],S.nv⟩) h rfl;rw[this]
 .rcases AFs q with rfl|j
  .grind
  .exact j
def Gd(R:List GF)(g:Option (Nat×Bool))(o:YOp R)(S:Lv.St)(N:Lv.St->Prop):Prop:=
 ∃b,Lv.wanted S g=some b/\((b=true/\opK Ji o.er S N)\/(b=false/\∃S',Lv.MK o.er S=some S'/\N S'))
theorem nV{S:St}{s:Nat}{w b:Bool}{v:Nat}(h:get S.tm s=some ⟨.one,[.t (.bool b)],v⟩):Lv.wanted (S.fg R) (some (s,w))=some (b==w):=by
 simp only[Lv.wanted,Wd,h];rfl
theorem AAZ{S:St}{s:Nat}{w:Bool}{v:Nat}(h:get S.tm s=some ⟨.one,[.und],v⟩):Lv.wanted (S.fg R) (some (s,w))=some false:=by
 simp only[Lv.wanted,Wd,h];rfl
theorem TH{S:St}{s:Nat}{w b:Bool}{v:Nat}{o:YOp R}{f:Option ρ}{K:St->Option ρ}{r:ρ}{P:Lv.St->(Lv.St->Prop)->Prop}(y:get S.tm s=some ⟨.one,[.t (.bool b)],v⟩)(x:Bool)(G:x=(b==w))
 (h:iZ x o (S.lit s b) f K=some r) (H:f=some r->∃S',BO (S.lit s b) S'/\K S'=some r/\∀N:Lv.St->Prop,N (S'.fg R)->P ((S.lit s b).fg R) N) :
 ∃S',BO S S'/\K S'=some r/\∀N:Lv.St->Prop,N (S'.fg R)->∃b,Lv.wanted (S.fg R) (some (s,w))=some b/\((b=true/\P (S.fg R) N)\/(b=false/\∃S',Lv.MK o.er (S.fg R)=some S'/\N S')):=by
 obtain⟨I,E⟩:=ATG (R:=R) y;cases x with
 |true=>
  obtain⟨S',j,q,B⟩:=H h;refine⟨S',E.trans j,q,fun N hN=>⟨_,nV y,.inl ⟨G.symm,?_⟩⟩⟩
  grind
 |false=>
  obtain⟨S',j,q,B⟩:=jJ (R:=R) h;refine⟨S',E.trans q,B,fun N hN=>⟨_,nV y,.inr ⟨G.symm,_,?_,hN⟩⟩⟩
  rwa[I]at j
theorem AS7{g:Option (Nat×Bool)}{o:YOp R}{S:St}{K:St->Option ρ}{r:ρ}(h:evg g o S K=some r) :
 ∃S',BO S S'/\K S'=some r/\∀N:Lv.St->Prop,N (S'.fg R)->Gd R g o (S.fg R) N:=by
 unfold evg at h;split at h
 .obtain⟨S',y,B,E⟩:=AFo h;exact⟨S',y,B,fun N hN=>⟨true,rfl,.inl ⟨rfl,E N hN⟩⟩⟩
 .rename_i s w;split at h
  .rename_i b v j;rcases ADP h with ⟨rfl,q⟩|⟨rfl,q⟩
   .exact TH (P:=opK Ji o.er) j w (by cases w<;>rfl) q fun G=>AFo G
   .exact TH (P:=opK Ji o.er) j (!w) (by cases w<;>rfl) q fun G=>AFo G
  .rename_i v j;obtain⟨S',y,B,E⟩:=jJ (R:=R) h;exact⟨S',B,E,fun N hN=>⟨false,AAZ j,.inr ⟨rfl,_,y,hN⟩⟩⟩
  .cases h
theorem AKd:∀{ops:List (Option (Nat×Bool)×YOp R)} {S:St} {K:St->Option ρ} {r:ρ},evs ops S K=some r ->
 ∃S',BO S S'/\K S'=some r/\∀N:Lv.St->Prop,N (S'.fg R)->ACl Ji (ops.map fun p=>(p.1,p.2.er)) (S.fg R) N
 | [],S,K,r,h=>⟨S,BO.refl _,h,fun N hN=>hN⟩|(g,o)::ops,S,K,r,h=>by
  have j:evg g o S (fun S'=>evs ops S' K)=some r:=by
   grind[evs,EV]
  obtain⟨S1,q,y,B⟩:=AS7 j;obtain⟨S2,E,G,H⟩:=AKd y;exact⟨S2,q.trans E,G,fun N hN=>B _ (H N hN)⟩
theorem AUq(o:YOp R):o.er.wr=o.wr.map (YO.er R):=by cases o<;>rfl
theorem Xd(l:AS):∀(ks:List PK) (es:List En),Lv.Jl (AS.fg R l) (ks.map PK.md) (es.map (En.fg R))=Jl l ks es
 | [],es=>by cases es<;>rfl
 |k::ks,[]=>rfl|k::ks,e::es=>by
  simp only[AJ,Lv.Jl,Jl,nY,En.fg,List.all_map,Function.comp_def,AI8,Xd l ks es]
theorem AQ9{S:St}{l:AS}(h:S.Nv l=true):(S.fg R).Nv (AS.fg R l)=true:=by
 unfold St.Nv at h;split at h
 .simp only[AS.fg,Lv.St.Nv,Pm,Option.isSome_map];exact h
 .rfl
 .rename_i s cs;cases cs<;>simp_all[AS.fg,Lv.St.Nv]
 .grind[AS.fg,Lv.St.Nv,KJ,ARI]
 .rfl
 .rfl
 .cases h
theorem uN{o:YOp R}{S:Lv.St}(j:∀d g fs y args,o≠.call d g fs y args)(q:∀d x ms args,o≠.D8 d x ms args):Lv.E9 o.er S=none:=by
 cases o<;>first|rfl|(exact(j _ _ _ _ _ rfl).elim)|(exact(q _ _ _ _ rfl).elim)
theorem APm{o:YOp R}{S:St}{l:AS}(h:UJ o S l=true):Lv.UJ o.er (S.fg R) (AS.fg R l)=true:=by
 unfold UJ at h;simp only[AF]at h;obtain⟨X,q⟩:=h;unfold Lv.UJ;rw[AQ9 X,Bool.true_and];have E:(AS.fg R l).Bm=l.Bm:=Ko l;have gen:(∀d g fs Q args,o≠.call d g fs Q args)->(∀d x ms args,o≠.D8 d x ms args) ->
  (match o.wr with|some y=>(match S.one y with|some lt=>l.Bm.isNone||!(match l.Bm with|some r=>isR lt.Bm r|none=>lt.Bm.isNone)|none=>false)|none=>true)=true ->
  (match Lv.E9 o.er (S.fg R) with
  |some (_,f,es)=>Lv.Jl (AS.fg R l) (D9 f) es|none=>match o.er.wr with
   |some y=>(match (S.fg R).one y with|some lt=>(AS.fg R l).Bm.isNone||decide ((AS.fg R l).Bm≠lt.Bm)|none=>true)
   |none=>true)=true:=by
  intro n1 n2 h;rw[uN n1 n2,AUq];cases hy:o.wr with
  |none=>rfl|some y=>
   rw[hy]at h;dsimp only at h;cases B:S.one y with
   |none=>rw[B]at h;cases h
   |some lt=>
    rw[B]at h;dsimp only at h ⊢;simp only[An,EY B];rw[E,Ko,decide_not,<-APi];exact h
 cases o with
 |st n x v=>
  dsimp only at q;have H:Lv.names (AS.fg R l)=names l:=iM l;generalize AS.fg R l=L at H E ⊢;cases B:S.one x with
  |none=>rw[B]at q;cases q
  |some lp=>
   rw[B]at q;have G:=EY (R:=R) B;simp only[YOp.er,G];cases lp with
   |bp id o=>
    dsimp only at q;show (!(Lv.names L).contains id)=true;rw[H,List.contains_eq_mem,<-Tc];exact q
   |ep r0 i j=>
    dsimp only at q;show decide (L.Bm≠some r0)=true;rw[E];rw[YX]at q;simpa using q
   |_=>cases q
 |call d g fs Q args=>
  dsimp only at q;cases J:S.rds args with
  |none=>rw[J]at q;cases q
  |some es=>
   rw[J]at q;have G:=Xd (R:=R) l g.ps es;generalize AS.fg R l=L at G ⊢;simp only[YOp.er,Lv.E9,Yt J,g.ms];rw[G];exact q
 |D8 d x ms args=>
  dsimp only at q;split at q
  .rename_i n caps es H Y;split at q
   .rename_i g Z;split at q
    .rename_i h7;have hx:xr R n=g.x:=by unfold xr;rw[Z]
     have I:=Xd (R:=R) l g.ps (es++caps.map fun l=>⟨.one,[l.leaf]⟩);rw[DQ,Da]at I;rw[show (En.fg R∘fun l=>(⟨.one,[l.leaf]⟩:En))=((fun l=>(⟨Sh.one,[l]⟩:Lv.Ent))∘Cap.fg) from by funext c;simp only[Function.comp,En.fg,AJ,BM,Y9],<-Da]at I;have O:=EY (R:=R) H;simp only[AS.fg,hx]at O;generalize AS.fg R l=L at I ⊢;simp only[YOp.er,Lv.E9,O,Yt Y];rw[if_pos (by rw[g.ms,h7])];dsimp only;rw[g.ms,I];exact q
    .cases q
   .cases q
  .cases q
 |_=>exact gen (by intros;simp) (by intros;simp) q
theorem zk{o:YOp R}{S:St}:∀{sf:List Nat},JZ o S sf=true->Lv.JZ o.er (S.fg R) sf=true
 | [],h=>rfl|s::sf,h=>by
  simp only[JZ,AF]at h;obtain⟨j,q⟩:=h;simp only[Lv.JZ,AF];refine⟨?_,zk q⟩;split at j
  .rename_i l y;have:=EY (R:=R) y
   grind[YO.er,APm]
  .cases j
theorem pC:∀{a b:List (Option Nat)},AHA a b=true->a=b
 | [],[],_=>rfl|none::r,none::j,h=>by simp only[AHA]at h;rw[pC h]|some a::r,some b::j,h=>by simp only[AHA,AF]at h;rw[beq_true h.1,pC h.2]| [],_::_,h=>by cases h
 |none::_,[],h=>by cases h
 |some _::_,[],h=>by cases h
 |none::_,some _::_,h=>by cases h
 |some _::_,none::_,h=>by cases h
theorem AQ4{a b:Sh}(h:AS5 a b=true):a=b:=by
 cases a<;>cases b<;>first|rfl|(cases h;done)|(simp only[AS5]at h;first|rw[pC h]|rw[beq_true h])
theorem yS:∀{a b:Option (Nat×Nat)},AFl a b=true->a=b
 |none,none,_=>rfl|some (a,b),some (j,q),h=>by simp only[AFl,AF]at h;rw[beq_true h.1,beq_true h.2]|none,some _,h=>by cases h
 |some _,none,h=>by cases h
theorem Yv:∀{a b:B0},B0.is a b=true->a=b
 |.tmp s c,.tmp q j,h=>by
  grind[B0.is,beq_true]
 |.cell s c,.cell q j,h=>by
  simp only[B0.is]at h
  grind[beq_true]
 |.tmp _ _,.cell _ _,h=>by cases h
 |.cell _ _,.tmp _ _,h=>by cases h
theorem yR{a b:Src}(h:AFk a b=true):a=b:=by
 cases a<;>cases b<;>simp only[AFk,AF]at h<;>first|(cases h;done)|rw[Yv h.1,yS h.2]|rw[beq_true h]
theorem AFj:∀{a b:List (Nat×Nat)},AQ3 a b=true->a=b
 | [],[],_=>rfl|(a,b)::r,(j,q)::y,h=>by simp only[AQ3,AF]at h;rw[beq_true h.1.1,beq_true h.1.2,AFj h.2]| [],_::_,h=>by cases h
 |_::_,[],h=>by cases h
theorem SV{γ:Type}{b:Bool}{x:Option γ}{r:γ}(h:ifB b x=some r):b=true/\x=some r:=by
 grind
theorem AAi{x y:U}{X:Option ρ}{r:ρ}(h:agU x y X=some r):x=y/\X=some r:=by
 cases x<;>cases y<;>simp only[agU]at h<;>first|(cases h;done)|exact⟨rfl,h⟩|skip
 .grind[SL]
 .grind[SL]
 .obtain⟨rfl,j⟩:=SL h;exact⟨rfl,j⟩
 .obtain⟨rfl,j⟩:=SL h;exact⟨rfl,j⟩
 .grind[SL]
 grind[SL]
theorem ADI:∀{x y:List U} {X:Option ρ} {r:ρ},ASh x y X=some r->x=y/\X=some r
 | [],[],X,r,h=>⟨rfl,h⟩|a::x,b::y,X,r,h=>by
  obtain⟨rfl,j⟩:=AAi h;obtain⟨rfl,q⟩:=ADI j;exact⟨rfl,q⟩
 | [],_::_,_,_,h=>by cases h
 |_::_,[],_,_,h=>by cases h
theorem AJY{c j:C}{xs:List c.D}{ys:List j.D}{X:Option ρ}{r:ρ}(h:(if h:j=c then eqv xs (h▸ys) X else none)=some r):(⟨c,xs⟩:(c:C)×List c.D)=⟨j,ys⟩/\X=some r:=by
 grind[SL]
theorem AQQ:∀{x y:AS} {X:Option ρ} {r:ρ},ATx x y X=some r->x=y/\X=some r
 |.t x,.t y,X,r,h=>by obtain⟨rfl,q⟩:=AAi h;exact⟨rfl,q⟩
 |.und,.und,X,r,h=>⟨rfl,h⟩|.ow x,.ow y,X,r,h=>by obtain⟨rfl,q⟩:=AAi h;exact⟨rfl,q⟩
 |.owh c xs Z,.owh I ys L,X,r,h=>by
  obtain⟨q,G⟩:=SV h;obtain⟨E,B⟩:=AJY G;cases E;rw[AFj q];exact⟨rfl,B⟩
 |.al Q s,.al O H,X,r,h=>by
  obtain⟨q,h⟩:=SV h
  grind[Yv,yS]
 |.ep Q i j,.ep O i' j',X,r,h=>by
  obtain⟨q,h⟩:=SV h
  grind[SL,Yv,beq_true]
 |.vw s c xs,.vw H I ys,X,r,h=>by
  obtain⟨q,G⟩:=SV h;obtain⟨E,B⟩:=AJY G;cases E;rw[yR q];exact⟨rfl,B⟩
 |.vp s cs,.vp H J,X,r,h=>by
  obtain⟨q,h⟩:=SV h;obtain⟨rfl,B⟩:=ADI h;rw[yR q];exact⟨rfl,B⟩
 |.bp a o,.bp Y o',X,r,h=>by
  obtain⟨q,h⟩:=SV h
  grind[beq_true]
 |.fn _ _,.fn _ _,_,_,h=>by cases h
 |.t _,.und,_,_,h=>by cases h
 |.t _,.ow _,_,_,h=>by cases h
 |.t _,.owh _ _ _,_,_,h=>by cases h
 |.t _,.al _ _,_,_,h=>by cases h
 |.t _,.ep _ _ _,_,_,h=>by cases h
 |.t _,.vw _ _ _,_,_,h=>by cases h
 |.t _,.vp _ _,_,_,h=>by cases h
 |.t _,.bp _ _,_,_,h=>by cases h
 |.t _,.fn _ _,_,_,h=>by cases h
 |.und,.t _,_,_,h=>by cases h
 |.und,.ow _,_,_,h=>by cases h
 |.und,.owh _ _ _,_,_,h=>by cases h
 |.und,.al _ _,_,_,h=>by cases h
 |.und,.ep _ _ _,_,_,h=>by cases h
 |.und,.vw _ _ _,_,_,h=>by cases h
 |.und,.vp _ _,_,_,h=>by cases h
 |.und,.bp _ _,_,_,h=>by cases h
 |.und,.fn _ _,_,_,h=>by cases h
 |.ow _,.t _,_,_,h=>by cases h
 |.ow _,.und,_,_,h=>by cases h
 |.ow _,.owh _ _ _,_,_,h=>by cases h
 |.ow _,.al _ _,_,_,h=>by cases h
 |.ow _,.ep _ _ _,_,_,h=>by cases h
 |.ow _,.vw _ _ _,_,_,h=>by cases h
 |.ow _,.vp _ _,_,_,h=>by cases h
 |.ow _,.bp _ _,_,_,h=>by cases h
 |.ow _,.fn _ _,_,_,h=>by cases h
 |.owh _ _ _,.t _,_,_,h=>by cases h
 |.owh _ _ _,.und,_,_,h=>by cases h
 |.owh _ _ _,.ow _,_,_,h=>by cases h
 |.owh _ _ _,.al _ _,_,_,h=>by cases h
 |.owh _ _ _,.ep _ _ _,_,_,h=>by cases h
 |.owh _ _ _,.vw _ _ _,_,_,h=>by cases h
 |.owh _ _ _,.vp _ _,_,_,h=>by cases h
 |.owh _ _ _,.bp _ _,_,_,h=>by cases h
 |.owh _ _ _,.fn _ _,_,_,h=>by cases h
 |.al _ _,.t _,_,_,h=>by cases h
 |.al _ _,.und,_,_,h=>by cases h
 |.al _ _,.ow _,_,_,h=>by cases h
 |.al _ _,.owh _ _ _,_,_,h=>by cases h
 |.al _ _,.ep _ _ _,_,_,h=>by cases h
 |.al _ _,.vw _ _ _,_,_,h=>by cases h
 |.al _ _,.vp _ _,_,_,h=>by cases h
 |.al _ _,.bp _ _,_,_,h=>by cases h
 |.al _ _,.fn _ _,_,_,h=>by cases h
 |.ep _ _ _,.t _,_,_,h=>by cases h
 |.ep _ _ _,.und,_,_,h=>by cases h
 |.ep _ _ _,.ow _,_,_,h=>by cases h
 |.ep _ _ _,.owh _ _ _,_,_,h=>by cases h
 |.ep _ _ _,.al _ _,_,_,h=>by cases h
 |.ep _ _ _,.vw _ _ _,_,_,h=>by cases h
 |.ep _ _ _,.vp _ _,_,_,h=>by cases h
 |.ep _ _ _,.bp _ _,_,_,h=>by cases h
 |.ep _ _ _,.fn _ _,_,_,h=>by cases h
 |.vw _ _ _,.t _,_,_,h=>by cases h
 |.vw _ _ _,.und,_,_,h=>by cases h
 |.vw _ _ _,.ow _,_,_,h=>by cases h
 |.vw _ _ _,.owh _ _ _,_,_,h=>by cases h
 |.vw _ _ _,.al _ _,_,_,h=>by cases h
 |.vw _ _ _,.ep _ _ _,_,_,h=>by cases h
 |.vw _ _ _,.vp _ _,_,_,h=>by cases h
 |.vw _ _ _,.bp _ _,_,_,h=>by cases h
 |.vw _ _ _,.fn _ _,_,_,h=>by cases h
 |.vp _ _,.t _,_,_,h=>by cases h
 |.vp _ _,.und,_,_,h=>by cases h
 |.vp _ _,.ow _,_,_,h=>by cases h
 |.vp _ _,.owh _ _ _,_,_,h=>by cases h
 |.vp _ _,.al _ _,_,_,h=>by cases h
 |.vp _ _,.ep _ _ _,_,_,h=>by cases h
 |.vp _ _,.vw _ _ _,_,_,h=>by cases h
 |.vp _ _,.bp _ _,_,_,h=>by cases h
 |.vp _ _,.fn _ _,_,_,h=>by cases h
 |.bp _ _,.t _,_,_,h=>by cases h
 |.bp _ _,.und,_,_,h=>by cases h
 |.bp _ _,.ow _,_,_,h=>by cases h
 |.bp _ _,.owh _ _ _,_,_,h=>by cases h
 |.bp _ _,.al _ _,_,_,h=>by cases h
 |.bp _ _,.ep _ _ _,_,_,h=>by cases h
 |.bp _ _,.vw _ _ _,_,_,h=>by cases h
 |.bp _ _,.vp _ _,_,_,h=>by cases h
 |.bp _ _,.fn _ _,_,_,h=>by cases h
 |.fn _ _,.t _,_,_,h=>by cases h
 |.fn _ _,.und,_,_,h=>by cases h
 |.fn _ _,.ow _,_,_,h=>by cases h
 |.fn _ _,.owh _ _ _,_,_,h=>by cases h
 |.fn _ _,.al _ _,_,_,h=>by cases h
 |.fn _ _,.ep _ _ _,_,_,h=>by cases h
 |.fn _ _,.vw _ _ _,_,_,h=>by cases h
 |.fn _ _,.vp _ _,_,_,h=>by cases h
 |.fn _ _,.bp _ _,_,_,h=>by cases h
theorem nc:∀{x y:List AS} {X:Option ρ} {r:ρ},AQR x y X=some r->x=y/\X=some r
 | [],[],X,r,h=>⟨rfl,h⟩|a::x,b::y,X,r,h=>by
  obtain⟨rfl,j⟩:=AQQ h;obtain⟨rfl,q⟩:=nc j;exact⟨rfl,q⟩
 | [],_::_,_,_,h=>by cases h
 |_::_,[],_,_,h=>by cases h
theorem Z9{a b:Nat}(h:Nat.blt a b=true):a<b:=by simp[Nat.blt]at h;omega
theorem AAh{v:Nat}{P:Nat->Ent->Prop}(hP:∀k e q,P k e->P k q->e=q):∀{x y:List (Nat×Ent)} {X:Option ρ} {r:ρ},(∀k e,(k,e)∈x->e.ver<v->P k e)->(∀k e,(k,e)∈y->e.ver<v->P k e)->agE v x y X=some r->fgE R x=fgE R y/\X=some r
 | [],[],X,r,_,_,h=>⟨rfl,h⟩|(k,e)::x,(Q,q)::y,X,r,H,I,h=>by
  simp only[agE]at h;split at h
  .rename_i O;have:=beq_true O;subst this;split at h
   .rename_i G;simp only[AF]at G;have:=hP k e q (H k e (BQ ..) (Z9 G.1)) (I k q (BQ ..) (Z9 G.2));subst this;obtain⟨B,E⟩:=AAh hP (fun k e j=>H k e (Aq _ j)) (fun k e j=>I k e (Aq _ j)) h;exact⟨by unfold fgE at B ⊢;rw[AJ,AJ,B],E⟩
   .obtain⟨J,h⟩:=SV h;obtain⟨L,h⟩:=nc h;obtain⟨B,E⟩:=AAh hP (fun k e j=>H k e (Aq _ j)) (fun k e j=>I k e (Aq _ j)) h;exact⟨by unfold fgE at B ⊢;rw[AJ,AJ,B];simp only[Ent.fg,AQ4 J,L],E⟩
  .cases h
 | [],_::_,_,_,_,_,h=>by cases h
 |_::_,[],_,_,_,_,h=>by cases h
theorem AAg{v:Nat}{P:Nat->Bx->Prop}(hP:∀k e q,P k e->P k q->e=q):∀{x y:List (Nat×Bx)} {X:Option ρ} {r:ρ},(∀k e,(k,e)∈x->e.ver<v->P k e)->(∀k e,(k,e)∈y->e.ver<v->P k e)->agB v x y X=some r->fgB R x=fgB R y/\X=some r
 | [],[],X,r,_,_,h=>⟨rfl,h⟩|(k,e)::x,(O,q)::y,X,r,H,I,h=>by
  simp only[agB]at h;split at h
  .rename_i L;have:=beq_true L;subst this;split at h
   .rename_i G;simp only[AF]at G;have:=hP k e q (H k e (BQ ..) (Z9 G.1)) (I k q (BQ ..) (Z9 G.2));subst this;obtain⟨B,E⟩:=AAg hP (fun k e j=>H k e (Aq _ j)) (fun k e j=>I k e (Aq _ j)) h;exact⟨by unfold fgB at B ⊢;rw[AJ,AJ,B],E⟩
   .obtain⟨J,h⟩:=nc h;obtain⟨B,E⟩:=AAg hP (fun k e j=>H k e (Aq _ j)) (fun k e j=>I k e (Aq _ j)) h;exact⟨by unfold fgB at B ⊢;rw[AJ,AJ,B,J],E⟩
  .cases h
 | [],_::_,_,_,_,_,h=>by cases h
 |_::_,[],_,_,_,_,h=>by cases h
theorem yz{α:Type}{k:Nat}{e:α}:∀{l:List (Nat×α)},(k,e)∈l->Zf k l=true
 |(j,x)::l,h=>by
  simp only[Zf];cases q:Nat.beq j k with
  |true=>rfl|false=>
   rcases Ak.1 h with h|h
   .cases h;rw[Ml]at q;cases q
   .exact yz h
theorem P2{α:Type}{k:Nat}{e:α}:∀{l:List (Nat×α)},iQ l=true->(k,e)∈l->get l k=some e
 |(j,x)::l,q,h=>by
  simp only[iQ,AF,A6]at q;simp only[get];rcases Ak.1 h with h|h
  .cases h;rw[Ml]
  .cases y:Nat.beq j k with
   |true=>rw[beq_true y,yz h]at q;cases q.1
   |false=>exact P2 q.2 h
theorem ASg{S A B:St}{X:Option ρ}{r:ρ}(hA:BO S A)(hB:BO S B)(h:agS S.nv A B X=some r):A.fg R=B.fg R/\X=some r:=by
 obtain⟨E,h⟩:=SV h;simp only[AF]at E;obtain⟨⟨⟨J,L⟩,O⟩,Q⟩:=E;obtain⟨H,h⟩:=AAh (R:=R) (P:=fun k e=>get S.tm k=some e) (fun k e G h y=>by rw[h]at y;exact Option.some.inj y) (fun k e j q=>hA.tm k e (P2 J j) q) (fun k e j q=>hB.tm k e (P2 L j) q) h;obtain⟨I,h⟩:=AAg (R:=R) (P:=fun k e=>get S.bx k=some e) (fun k e G h y=>by rw[h]at y;exact Option.some.inj y) (fun k e j q=>hA.bx k e (P2 O j) q) (fun k e j q=>hB.bx k e (P2 Q j) q) h;exact⟨by simp only[St.fg,H,I,hA.pin,hB.pin],h⟩
theorem YD:∀{x:Bd R} {S:St} {K:St->Option ρ} {r:ρ},evr x S K=some r ->
 ∃S',BO S S'/\K S'=some r/\∀N:Lv.St->Prop,N (S'.fg R)->runK Ji x.er (S.fg R) N
 |.nil,S,K,r,h=>⟨S,BO.refl _,h,fun N hN=>hN⟩|.dr ds x,S,K,r,h=>by
  obtain⟨S',q,j,y⟩:=YD (x:=x) h;refine⟨S',(BO.Hs _ _).trans q,j,fun N hN=>?_⟩;have:=y N hN;rw[yP]at this;exact this
 |.nl ns x,S,K,r,h=>by
  obtain⟨S',q,j,y⟩:=YD (x:=x) h;refine⟨S',(BO.Q1 _ _).trans q,j,fun N hN=>?_⟩;have:=y N hN;rw[re]at this;exact this
 |.both n a b,S,K,r,h=>by
  have h:evr a S (fun A=>evr b S fun B=>agS S.nv A B (K A))=some r:=by
   cases n with
   |zero=>exact h|succ n=>simpa only[evr,ADK] using h
  obtain⟨A,I,J,a3⟩:=YD (x:=a) (K:=fun A=>evr b S fun B=>agS S.nv A B (K A)) h;obtain⟨B,L,O,Q⟩:=YD (x:=b) (K:=fun B=>agS S.nv A B (K A)) J;obtain⟨e,j⟩:=ASg (R:=R) I L O;exact⟨A,I,j,fun N hN=>⟨a3 N hN,Q N (e▸hN)⟩⟩
 |.op i g sf o x,S,K,r,h=>by
  have safe:∀{S:St},(if JZ o S sf=true then ev o S fun S'=>S'.FA fun S'=>evr x S' K else none)=some r ->
   ∃S',BO S S'/\evr x S' K=some r/\∀N:Lv.St->Prop,N (S'.fg R)->(Lv.JZ o.er (S.fg R) sf=true/\opK Ji o.er (S.fg R) N):=by
   intro S h;split at h
   .rename_i hs;obtain⟨S',q,j,y⟩:=AFo h;rw[EV]at j;exact⟨S',q,j,fun N hN=>⟨zk hs,y N hN⟩⟩
   .cases h
  have key:∃S',BO S S'/\evr x S' K=some r/\∀N:Lv.St->Prop,N (S'.fg R)->∃b,Lv.wanted (S.fg R) g=some b/\((b=true/\Lv.JZ o.er (S.fg R) sf=true/\opK Ji o.er (S.fg R) N)\/(b=false/\∃S',Lv.MK o.er (S.fg R)=some S'/\N S')):=by
   simp only[evr,AS9]at h;split at h
   .obtain⟨S',q,j,y⟩:=safe h;exact⟨S',q,j,fun N hN=>⟨true,rfl,.inl ⟨rfl,y N hN⟩⟩⟩
   .rename_i s w;split at h
    .rename_i b v E;rcases ADP h with ⟨rfl,G⟩|⟨rfl,G⟩
     .refine TH (K:=fun S'=>evr x S' K) (P:=fun S N=>Lv.JZ o.er S sf=true/\opK Ji o.er S N) E w (by cases w<;>rfl) (f:=if JZ o (S.lit s true) sf=true then ev o (S.lit s true) fun S'=>S'.FA fun S'=>evr x S' K else none) ?_ fun H=>safe H
      simpa only[EV] using G
     .refine TH (K:=fun S'=>evr x S' K) (P:=fun S N=>Lv.JZ o.er S sf=true/\opK Ji o.er S N) E (!w) (by cases w<;>rfl) (f:=if JZ o (S.lit s false) sf=true then ev o (S.lit s false) fun S'=>S'.FA fun S'=>evr x S' K else none) ?_ fun H=>safe H
      simpa only[EV] using G
    .rename_i v E;simp only[EV]at h;obtain⟨S',q,j,y⟩:=jJ (R:=R) h;exact⟨S',j,y,fun N hN=>⟨false,AAZ E,.inr ⟨rfl,_,q,hN⟩⟩⟩
    .cases h
  obtain⟨S1,q,j,y⟩:=key;obtain⟨S2,X,Y,Z⟩:=YD (x:=x) j;exact⟨S2,q.trans X,Y,fun N hN=>y _ (Z N hN)⟩
end
end Y
end Lv
namespace Lv
open Go (IntKind BinOp UnOp)
namespace Y
section
variable{R:List GF}{ρ:Type}
theorem ANy{s:Option Src}{l:AS}{x:U}(h:ANx s l=some x):ANw s x=l:=by
 unfold ANx at h;split at h
 .cases h
 .cases h
 .cases h
 .rename_i j q y;cases h;cases s<;>cases x<;>first|rfl|(exact(j _ _ rfl).elim)|(exact(q rfl).elim)|(exact(y _ rfl).elim)
 .split at h
  .cases h;rfl
  .cases h
 .split at h
  .cases h;rfl
  .cases h
 .split at h
  .cases h
  .split at h
   .rename_i B;subst B;cases h;rfl
   .cases h
 .cases h
theorem mX{s:Option Src}:∀{ls:List AS} {us:List U},rW s ls=some us->us.map (ANw s)=ls
 | [],us,h=>by cases h;rfl
 |l::ls,us,h=>by
  simp only[rW]at h;split at h
  .rename_i x xs j q;cases h;rw[AJ,ANy j,mX q]
  .cases h
theorem ASc{a:AL}{ls:List AS}{x:a.D}(h:a.un ls=some x):a.leaf x=ls:=by
 cases a with
 |val c s=>
  simp only[AL.un]at h;split at h
  .rename_i us q;simp only[AL.leaf];rw[Yj h,mX q]
  .cases h
 |num k=>
  simp only[AL.un]at h;split at h
  .split at h
   .rename_i j;subst j;cases h;rfl
   .cases h
  .cases h
 |al r=>
  simp only[AL.un]at h;split at h
  .split at h
   .rename_i j;subst j;rfl
   .cases h
  .cases h
theorem tT:∀{as:List AL} {ls:List AS} {x:TA as},AR3 as ls=some x->Se as x=ls
 | [],ls,x,h=>by
  cases ls with
  |nil=>rfl|cons l ls=>cases h
 | [a],ls,x,h=>ASc h|a::j::as,ls,x,h=>by
  simp only[AR3]at h;split at h
  .rename_i y z q B;cases h;show a.leaf y++Se (j::as) z=ls;rw[ASc q,tT B,Hq]
  .cases h
theorem LQ{b:Bool}{k:Nat}:∀{c:Cut} {ls:List AS},OH b k c=false->look b k (seg c ls)=none
 | [],ls,h=>rfl|(j,d,sh,as)::c,ls,h=>by
  simp only[OH]at h;simp only[seg,look];split at h
  .cases h
  .exact LQ h
theorem YH{S:St}{k:Nat}:∀{c:Cut} {ls:List AS},Ql S c=some ls->OH false k c=true->∃e,get S.tm k=some e/\look false k (seg c ls)=some (e.sh,e.cs)
 | [],ls,h,j=>by cases j
 |(false,d,sh,as)::c,ls,h,j=>by
  simp only[Ql]at h;split at h
  .rename_i e ls' B y;split at h
   .rename_i q;cases h;simp only[OH]at j;simp only[seg,look];split at j
    .rename_i E;have H:d=k:=by simpa[QT] using E
     subst H;refine⟨e,B,?_⟩;rw[Ce q.2,XI q.1]
    .rename_i E;rw[CU q.2];exact YH y j
   .cases h
  .cases h
 |(true,d,sh,as)::c,ls,h,j=>by
  simp only[Ql]at h;split at h
  .rename_i e ls' B y;split at h
   .rename_i q;cases h;have G:((true:Bool)==false)=false:=rfl;simp only[OH,G,BW]at j;simp only[seg,look,G,BW];rw[CU q];exact YH y j
   .cases h
  .cases h
theorem YG{S:St}{k:Nat}:∀{c:Cut} {ls:List AS},Ql S c=some ls->OH true k c=true->∃e sh,get S.bx k=some e/\look true k (seg c ls)=some (sh,e.cs)
 | [],ls,h,j=>by cases j
 |(true,d,sh,as)::c,ls,h,j=>by
  simp only[Ql]at h;split at h
  .rename_i e ls' B y;split at h
   .rename_i q;cases h;simp only[OH]at j;simp only[seg,look];split at j
    .rename_i E;have H:d=k:=by simpa[QT] using E
     subst H;refine⟨e,sh,B,?_⟩;rw[Ce q]
    .rename_i E;rw[CU q];exact YG y j
   .cases h
  .cases h
 |(false,d,sh,as)::c,ls,h,j=>by
  simp only[Ql]at h;split at h
  .rename_i e ls' B y;split at h
   .rename_i q;cases h;have G:((false:Bool)==true)=false:=rfl;simp only[OH,G,BW]at j;simp only[seg,look,G,BW];rw[CU q.2];exact YG y j
   .cases h
  .cases h
theorem AGS{q:List (Bool×Nat×Sh×List AS)}{a:List (Nat×Ent)}{v:Nat}:∀{l:List (Nat×Ent)},(∀k e,(k,e)∈l->look false k q=some (e.sh,e.cs)\/(look false k q=none/\get a k=some e))->fgE R (i7 q a v l)=fgE R l
 | [],_=>rfl|(k,e)::l,h=>by
  have y:=AGS (v:=v) (l:=l) (fun k e E=>h k e (Aq _ E));simp only[fgE,i7,AJ]at y ⊢;rw[y];rcases h k e (by simp) with j|⟨j,B⟩
  .rw[j];rfl
  .rw[j,B]
theorem AGR{q:List (Bool×Nat×Sh×List AS)}{a:List (Nat×Bx)}{v:Nat}:∀{l:List (Nat×Bx)},(∀k e,(k,e)∈l->(∃sh,look true k q=some (sh,e.cs))\/(look true k q=none/\get a k=some e))->fgB R (i6 q a v l)=fgB R l
 | [],_=>rfl|(k,e)::l,h=>by
  have y:=AGR (v:=v) (l:=l) (fun k e E=>h k e (Aq _ E));simp only[fgB,i6,AJ]at y ⊢;rw[y];rcases h k e (by simp) with ⟨sh,j⟩|⟨j,B⟩
  .rw[j]
  .rw[j,B]
theorem Yb{α:Type}{k:Nat}{e:α}:∀{l:List (Nat×α)},(k,e)∈l->Zf k l=true
 |(j,x)::l,h=>by
  simp only[Zf];cases q:Nat.beq j k with
  |true=>rfl|false=>
   rcases Ak.1 h with h|h
   .cases h;exact(beq_false q rfl).elim
   .exact Yb h
theorem nB{c:Cut}{a:List (Nat×Ent)}:∀{l:List (Nat×Ent)} {k:Nat} {e:Ent},AGW c a l=true->(k,e)∈l->get l k=some e/\(OH false k c=true\/(OH false k c=false/\∃y,get a k=some y/\e.ver=y.ver))
 |(j,x)::l,k,e,h,q=>by
  simp only[AGW,AF,A6]at h;obtain⟨⟨E,G⟩,B⟩:=h;rcases Ak.1 q with q|q
  .grind[Prod.mk.injEq,get,Nat.beq,QT,OH,beq_true]
  .obtain⟨H,I⟩:=nB B q
   grind[get,Nat.beq,beq_true,Yb]
theorem nA{c:Cut}{a:List (Nat×Bx)}:∀{l:List (Nat×Bx)} {k:Nat} {e:Bx},AGV c a l=true->(k,e)∈l->get l k=some e/\(OH true k c=true\/(OH true k c=false/\∃y,get a k=some y/\e.ver=y.ver))
 |(j,x)::l,k,e,h,q=>by
  simp only[AGV,AF,A6]at h;obtain⟨⟨E,G⟩,B⟩:=h;rcases Ak.1 q with q|q
  .grind[Prod.mk.injEq,get,Nat.beq,QT,OH,beq_true]
  .obtain⟨H,I⟩:=nA B q
   grind[get,Nat.beq,beq_true,Yb]
theorem AJl{a b:Nat}(h:Nat.blt a b=true):a<b:=Nat.le_of_ble_eq_true h
theorem AGi{v:Nat}:∀{l:List (Nat×Ent)} {k:Nat} {e:Ent},wfE v l=true->get l k=some e->e.ver<v
 |(j,x)::l,k,e,h,q=>by
  simp only[wfE,AF]at h;simp only[get]at q;split at q
  .cases q;exact AJl h.1
  .exact AGi h.2 q
theorem AGh{v:Nat}:∀{l:List (Nat×Bx)} {k:Nat} {e:Bx},wfB v l=true->get l k=some e->e.ver<v
 |(j,x)::l,k,e,h,q=>by
  simp only[wfB,AF]at h;simp only[get]at q;split at q
  .cases q;exact AJl h.1
  .exact AGh h.2 q
structure ER(c:Cut)(S S':St):Prop where
 tm:∀k e,OH false k c=false->get S'.tm k=some e->e.ver<S.nv->get S.tm k=some e
 bx:∀k e,OH true k c=false->get S'.bx k=some e->e.ver<S.nv->get S.bx k=some e
 pin:S'.pin=S.pin
theorem ER.of{c:Cut}{S S':St}(h:BO S S'):ER c S S':=⟨fun k e _=>h.tm k e,fun k e _=>h.bx k e,h.pin⟩
theorem pD{c:Cut}{S S':St}{x:TA c.as}(h:c.fit S S'=some x)(H:ER c S S') :
 (c.st S S' x).fg R=S'.fg R /\
 (∀k e,(k,e)∈S'.tm->look false k (seg c (Se c.as x))=some (e.sh,e.cs)\/(look false k (seg c (Se c.as x))=none/\get S.tm k=some e)) /\
 (∀k e,(k,e)∈S'.bx->(∃sh,look true k (seg c (Se c.as x))=some (sh,e.cs))\/(look true k (seg c (Se c.as x))=none/\get S.bx k=some e)):=by
 unfold Cut.fit at h;split at h
 .rename_i Q;obtain⟨w1,Y,s1,X⟩:=Q;split at h
  .rename_i ls J;rw[tT h];have hE:∀k e,(k,e)∈S'.tm->look false k (seg c ls)=some (e.sh,e.cs)\/(look false k (seg c ls)=none/\get S.tm k=some e):=by
    intro k e I;obtain⟨q,j⟩:=nB s1 I;rcases j with j|⟨j,L,B,E⟩
    .obtain⟨O,y,G⟩:=YH J j;rw[q]at y;cases y;exact .inl G
    .exact .inr ⟨LQ j,H.tm k e j q (by rw[E];exact AGi w1 B)⟩
   have hB:∀k e,(k,e)∈S'.bx->(∃sh,look true k (seg c ls)=some (sh,e.cs))\/(look true k (seg c ls)=none/\get S.bx k=some e):=by
    intro k e I;obtain⟨q,j⟩:=nA X I;rcases j with j|⟨j,L,B,E⟩
    .obtain⟨O,sh,y,G⟩:=YG J j;rw[q]at y;cases y;exact .inl ⟨sh,G⟩
    .exact .inr ⟨LQ j,H.bx k e j q (by rw[E];exact AGh Y B)⟩
   refine⟨?_,hE,hB⟩;simp only[St.fg,Cut.st,tT h];rw[AGS hE,AGR hB,H.pin]
  .cases h
 .cases h
theorem my{q:List (Bool×Nat×Sh×List AS)}{a:List (Nat×Ent)}{v:Nat}:∀{l l':List (Nat×Ent)},OA l l'=true->(∀k e,(k,e)∈l'->look false k q=some (e.sh,e.cs)\/(look false k q=none/\get a k=some e))->i7 q a v l=i7 q a v l'
 | [],[],_,_=>rfl| [],_::_,h,_=>by cases h
 |_::_,[],h,_=>by cases h
 |(k,e)::l,(I,G)::l',h,B=>by
  simp only[OA,AF]at h;obtain⟨j,y⟩:=h;have:=beq_true j;subst this;have H:=my (v:=v) y (fun k e E=>B k e (Aq _ E))
  grind[i7]
theorem mw{q:List (Bool×Nat×Sh×List AS)}{a:List (Nat×Bx)}{v:Nat}:∀{l l':List (Nat×Bx)},OA l l'=true->(∀k e,(k,e)∈l'->(∃sh,look true k q=some (sh,e.cs))\/(look true k q=none/\get a k=some e))->i6 q a v l=i6 q a v l'
 | [],[],_,_=>rfl| [],_::_,h,_=>by cases h
 |_::_,[],h,_=>by cases h
 |(k,e)::l,(I,G)::l',h,B=>by
  simp only[OA,AF]at h;obtain⟨j,y⟩:=h;have:=beq_true j;subst this;have H:=mw (v:=v) y (fun k e E=>B k e (Aq _ E))
  grind[i6]
theorem gP{q:List (Bool×Nat×Sh×List AS)}{a:List (Nat×Ent)}{v k:Nat}(G:look false k q=none):∀{l:List (Nat×Ent)} {y:Ent},get (i7 q a v l) k=some y->∃e,get l k=some e/\y=(match get a k with|some B=>B|none=>e)
 |(j,x)::l,y,h=>by
  simp only[i7,get]at h ⊢;cases E:Nat.beq j k with
  |true=>
   grind[beq_true,Option.some.inj]
  |false=>rw[E]at h;exact gP G h
theorem gO{q:List (Bool×Nat×Sh×List AS)}{a:List (Nat×Bx)}{v k:Nat}(G:look true k q=none):∀{l:List (Nat×Bx)} {y:Bx},get (i6 q a v l) k=some y->∃e,get l k=some e/\y=(match get a k with|some B=>B|none=>e)
 |(j,x)::l,y,h=>by
  simp only[i6,get]at h ⊢;cases E:Nat.beq j k with
  |true=>
   grind[beq_true,Option.some.inj]
  |false=>rw[E]at h;exact gO G h
theorem ER.round{c:Cut}{S S':St}{x:TA c.as}(h:BO (c.st S S x) S'):ER c S S':=by
 refine⟨fun k e G E j=>?_,fun k e G E j=>?_,h.pin⟩
 .have q:=h.tm k e E (JO j);obtain⟨H,y,B⟩:=gP (LQ G) q
  grind
 .have q:=h.bx k e E (JO j);obtain⟨H,y,B⟩:=gO (LQ G) q;rw[y]at B;subst B;exact y
theorem l9{c:Cut}{S S':St}{y:TA c.as}(h:c.fit S S'=some y)(j:ER c S S')(q:OA S.tm S'.tm=true)(B:OA S.bx S'.bx=true):(c.st S S y).fg R=S'.fg R:=by
 obtain⟨E,G,H⟩:=pD (R:=R) h j
 grind[St.fg,Cut.st,my,mw]
theorem Yd{b:Bool}{k:Nat}:∀{c:Cut} {ls:List AS},OH b k c=true->∃p,look b k (seg c ls)=some p
 |(j,d,sh,as)::c,ls,h=>by
  simp only[OH]at h;simp only[seg,look];split at h
  .exact⟨_,rfl⟩
  .exact Yd h
theorem ze{q:List (Bool×Nat×Sh×List AS)}{a:List (Nat×Ent)}{v k:Nat}{p:Sh×List AS}(E:look false k q=some p):∀{l:List (Nat×Ent)} {y:Ent},get (i7 q a v l) k=some y->v<=y.ver
 |(j,z)::l,y,h=>by
  simp only[i7,get]at h;cases B:Nat.beq j k with
  |true=>
   grind[beq_true]
  |false=>rw[B]at h;exact ze E h
theorem zd{q:List (Bool×Nat×Sh×List AS)}{a:List (Nat×Bx)}{v k:Nat}{p:Sh×List AS}(E:look true k q=some p):∀{l:List (Nat×Bx)} {y:Bx},get (i6 q a v l) k=some y->v<=y.ver
 |(j,z)::l,y,h=>by
  simp only[i6,get]at h;cases B:Nat.beq j k with
  |true=>
   grind[beq_true]
  |false=>rw[B]at h;exact zd E h
theorem BO.st{c:Cut}{S S':St}{x:TA c.as}(I:BO S S'):BO S (c.st S S' x):=by
 refine⟨by simp[Cut.st],fun k e B E=>?_,fun k e B E=>?_,rfl⟩
 .cases j:OH false k c with
  |false=>
   obtain⟨J,G,q⟩:=gP (LQ j) B;cases y:get S.tm k with
   |some L=>rw[y]at q;subst q;rfl|none=>
    rw[y]at q;subst q;have:=I.tm k _ G E;rw[y]at this;cases this
  |true=>
   obtain⟨p,H⟩:=Yd (ls:=Se c.as x) j;exact absurd E (ON.2 (ze H B))
 .cases j:OH true k c with
  |false=>
   obtain⟨J,G,q⟩:=gO (LQ j) B;cases y:get S.bx k with
   |some L=>rw[y]at q;subst q;rfl|none=>
    rw[y]at q;subst q;have:=I.bx k _ G E;rw[y]at this;cases this
  |true=>
   obtain⟨p,H⟩:=Yd (ls:=Se c.as x) j;exact absurd E (ON.2 (zd H B))
theorem Dq:∀{x:F7 R} {S:St} {K:Ex->St->Option ρ} {r:ρ} {Q:Ex->Lv.St->Prop},Gt x S K=some r->(∀e S',BO S S'->K e S'=some r->Q e (S'.fg R))->wp Ji x.er (S.fg R) Q
 |.skip,S,K,r,Q,h,hQ=>hQ _ _ (BO.refl _) h|.region ops E4,S,K,r,Q,h,hQ=>by
  obtain⟨S',O,E,H⟩:=AKd (show evs ops S _=some r from h);rw[EV]at E;refine H _ ⟨S'.clo 6 (S'.pin++E4),?_⟩;rw[<-VV];exact hQ _ _ (O.trans (BO.clean _ _)) E
 |.Pj x E4,S,K,r,Q,h,hQ=>by
  obtain⟨S',O,E,H⟩:=YD (show evr x S _=some r from h);rw[EV]at E;refine H _ ⟨S'.clo 6 (S'.pin++E4),?_⟩;rw[<-VV];exact hQ _ _ (O.trans (BO.clean _ _)) E
 |.seq a b,S,K,r,Q,h,hQ=>by
  refine Dq (x:=a) (show Gt a S _=some r from h) fun e S' q j=>?_
  cases e with
  |n=>exact Dq (x:=b) j fun e S2 B E=>hQ _ _ (q.trans B) E|x i=>exact hQ _ _ q j|r=>exact hQ _ _ q j
 |.join c a b,S,K,r,Q,h,hQ=>by
  refine Dq (x:=a) (show Gt a S _=some r from h) fun e S' q j=>?_
  cases e with
  |n=>
   dsimp only at j ⊢;split at j
   .rename_i x hx;have j:(c.st S S' x).FA (fun S=>Gt b S K)=some r:=by rw[<-ANp (fun x=>(c.st S S' x).FA fun S=>Gt b S K) x];exact j
    rw[EV]at j;obtain⟨H,_,_⟩:=pD (R:=R) hx (ER.of q);rw[<-H];refine Dq (x:=b) j fun e S2 B E=>hQ _ _ ?_ E
    exact(BO.st q).trans B
   .cases j
  |x i=>exact hQ _ _ q j|r=>exact hQ _ _ q j
 |.cond c kt ke t e,S,K,r,Q,h,hQ=>by
  simp only[Gt]at h;split at h
  .rename_i b hb;have X:=Ol (R:=R) hb;simp only[YO.er,U.fg]at X;rcases ADP h with ⟨rfl,j⟩|⟨rfl,j⟩
   .rw[EV]at j;refine⟨true,X,S.clo 6 (S.pin++kt),?_⟩;rw[if_pos rfl,<-VV];exact Dq (x:=t) j fun e S2 B E=>hQ _ _ ((BO.clean _ _).trans B) E
   .rw[EV]at j;refine⟨false,X,S.clo 6 (S.pin++ke),?_⟩;rw[if_neg (by simp),<-VV];exact Dq (x:=e) j fun e S2 B E=>hQ _ _ ((BO.clean _ _).trans B) E
  .cases h
 |.block id b,S,K,r,Q,h,hQ=>by
  refine Dq (x:=b) (show Gt b S _=some r from h) fun e S' q j=>?_
  cases e with
  |n=>exact hQ _ _ q j|x i=>
   dsimp only at j ⊢;split at j
   .rename_i hi;rw[if_pos hi];exact hQ _ _ q j
   .rename_i hi;rw[if_neg hi];exact hQ _ _ q j
  |r=>exact hQ _ _ q j
 |.loop c b,S,K,r,Q,h,hQ=>by
  simp only[Gt]at h;split at h
  .rename_i x0 J;have key:∀(n:Nat) (x:TA c.as),A7 (fun L x=>(c.st S S x).FA fun S1=>Gt b S1 fun e S'=>match e with
    |.n=>if OA S.tm S'.tm=true/\OA S.bx S'.bx=true then (match c.fit S S' with|some y=>L y|none=>none) else none
    |.x i=>K (.x i) S'|.r=>K .r S') n x=some r->AGA (wp Ji b.er) n ((c.st S S x).fg R) Q:=by
    intro n
    induction n with
    |zero=>intro x h;rw[AGB]at h;cases h
    |succ n Z=>
     intro x h;rw[Dy]at h;rw[EV]at h;refine Dq (x:=b) h fun e S' q j=>?_
     have hS:BO S (c.st S S x):=BO.st (BO.refl S);cases e with
     |n=>
      dsimp only at j ⊢;split at j
      .rename_i G;split at j
       .rename_i y Y;rw[<-l9 Y (ER.round q) G.1 G.2];exact Z y j
       .cases j
      .cases j
     |x i=>exact hQ _ _ (hS.trans q) j|r=>exact hQ _ _ (hS.trans q) j
   refine⟨big,?_⟩;obtain⟨H,_,_⟩:=pD (R:=R) J (ER.of (BO.refl S));rw[<-H];exact key big x0 h
  .cases h
 |.exit id,S,K,r,Q,h,hQ=>hQ _ _ (BO.refl _) h|.ret,S,K,r,Q,h,hQ=>hQ _ _ (BO.refl _) h|.scope b,S,K,r,Q,h,hQ=>Dq (x:=b) (show Gt b S K=some r from h) hQ|.or a b,S,K,r,Q,h,hQ=>(ATX (show orX (Gt a S K) (Gt b S K)=some r from h)).elim (fun h=>.inl (Dq (x:=a) h hQ)) fun h=>.inr (Dq (x:=b) h hQ)|.dead,S,K,r,Q,h,hQ=>by cases h
 |.ARY c b,S00,K,r,Q,h,hQ=>by
  refine⟨big+1,?_⟩;refine Dq (x:=b) (show Gt b S00 _=some r from h) fun e S I h=>?_
  cases e with
  |n=>
   dsimp only at h ⊢;split at h
   .rename_i x0 J;have key:∀(n:Nat) (x:TA c.as),A7 (fun L x=>(c.st S S x).FA fun S1=>Gt b S1 fun e S'=>match e with
     |.n=>if OA S.tm S'.tm=true/\OA S.bx S'.bx=true then (match c.fit S S' with|some y=>L y|none=>none) else none
     |.x i=>K (.x i) S'|.r=>K .r S') n x=some r->AGA (wp Ji b.er) n ((c.st S S x).fg R) Q:=by
     intro n
     induction n with
     |zero=>intro x h;rw[AGB]at h;cases h
     |succ n Z=>
      intro x h;rw[Dy]at h;rw[EV]at h;refine Dq (x:=b) h fun e S' q j=>?_
      have hS:BO S (c.st S S x):=BO.st (BO.refl S);cases e with
      |n=>
       dsimp only at j ⊢;split at j
       .rename_i G;split at j
        .rename_i y Y;rw[<-l9 Y (ER.round q) G.1 G.2];exact Z y j
        .cases j
       .cases j
      |x i=>exact hQ _ _ (I.trans (hS.trans q)) j|r=>exact hQ _ _ (I.trans (hS.trans q)) j
    obtain⟨H,_,_⟩:=pD (R:=R) J (ER.of (BO.refl S));rw[<-H];exact key big x0 h
   .cases h
  |x i=>exact hQ _ _ I h|r=>exact hQ _ _ I h
end
end Y
end Lv
namespace Lv
open Go (IntKind BinOp UnOp)
namespace Y
section
variable{R:List GF}{ρ:Type}
def AUK:C->Bool|.st _=>true|.un _=>true|_=>false
def uO:List (Bool×C)->Bool| []=>true|(true,_)::r=>uO r|(false,c)::r=>(!AUK c&&decide (c≠.m))&&uO r
def zM:List PK->Bool| []=>true|.f _ l::r=>uO l&&zM r|_::r=>zM r
theorem n6(i:Nat):∀(l:List (Bool×C)) (x:nZ l),uO l=true->Lv.Oz i (Rq l x)=some ((Oz i l x).map Cap.fg)
 | [],x,h=>rfl|(true,c)::l,x,h=>by
  have j:=n6 i l x.2 h;simp only[Rq,Lv.Oz,Oz,AJ,Cap.fg];rw[j,El];rfl
 |(false,c)::l,x,h=>by
  simp only[uO,AF,A6,decide_eq_true_eq]at h;have j:=n6 i l x.2 h.2;cases c with
  |st n=>cases h.1.1
  |un n=>cases h.1.1
  |m=>exact(h.1.2 rfl).elim|_=>
   simp only[Rq,enc,Lv.Oz,Oz,cells,AJ,j];rfl
theorem APr(c:C)(x:c.D):Fb (shC c) (enc c x).length=true:=by
 rw[Ob];cases c<;>rfl
theorem N0:∀(ks:List PK) (i:Nat) (fs:List Nat) (a:A ks) (S:St),zM ks=true->fs.map (fun n=>(R[n]?).map GF.x)=(fX ks).map some ->
 Lv.initK i (ks.map PK.md) (aVs ks a) (S.fg R)=some ((initK i fs ks a S).fg R)
 | [],i,fs,a,S,_,_=>rfl|k::ks,i,fs,a,S,B,y=>by
  obtain⟨j,E⟩:=a;cases k with
  |v c=>
   have hE:enc c j=(cells c j).map U.fg:=El c j;have q:=N0 ks (i+1) fs E (S.Jt i (shC c) ((cells c j).map (Dt i))) B y;rw[Ld,Py,<-hE]at q;exact q
  |p c=>
   have hE:enc c j=(cells c j).map U.fg:=El c j;have q:=N0 ks (i+1) fs E (S.Jt i .one [.vp (.old i) (cells c j)]) B y;rw[Ld]at q;simp only[AJ,BM,AS.fg]at q;rw[<-hE]at q;exact q
  |b c=>
   have hE:enc c j=(cells c j).map U.fg:=El c j;have q:=N0 ks (i+1) fs E (let S1:=(S.Jt i .one [.bp i 0]).OJ i ((cells c j).map (Dt i));⟨S1.tm,S1.bx,i::S1.pin,S1.nv⟩) B y;have e:(let S1:=(S.Jt i .one [.bp i 0]).OJ i ((cells c j).map (Dt i));(⟨S1.tm,S1.bx,i::S1.pin,S1.nv⟩:St)).fg R={ S.fg R with tm:=Lv.put (S.fg R).tm i ⟨.one,[.bp i 0]⟩,bx:=Lv.put (S.fg R).bx i ((enc c j).map (Lv.Dt i)),pin:=i::(S.fg R).pin}:=by
    have G:=Tj (R:=R) (S.Jt i .one [.bp i 0]) i ((cells c j).map (Dt i));rw[Ld,Py,<-hE]at G;have H:=congrArg Lv.St.tm G;have I:=congrArg Lv.St.bx G;simp only[St.fg]at H I ⊢;rw[H,I];rfl
   rw[e]at q;exact q
  |o c=>
   have hE:enc c j=(cells c j).map U.fg:=El c j;have q:=N0 ks (i+1) fs E (S.Jt i (shC c) ((cells c j).map JX)) B y;rw[Ld,Yg,<-hE]at q;exact q
  |m c=>
   have hE:enc c j=(cells c j).map U.fg:=El c j;have q:=N0 ks (i+1) fs E (let S1:=S.Jt i (shC c) ((cells c j).map JX);⟨S1.tm,S1.bx,i::S1.pin,S1.nv⟩) B y;have e:(let S1:=S.Jt i (shC c) ((cells c j).map JX);(⟨S1.tm,S1.bx,i::S1.pin,S1.nv⟩:St)).fg R={ S.fg R with tm:=Lv.put (S.fg R).tm i ⟨shC c,(enc c j).map Lv.JX⟩,pin:=i::(S.fg R).pin}:=by
    have G:=Ld (R:=R) S i (shC c) ((cells c j).map JX);rw[Yg,<-hE]at G;have H:=congrArg Lv.St.tm G;simp only[St.fg]at H ⊢;rw[H];rfl
   rw[e]at q;have O:Fb (shC c) (enc c j).length=true:=APr c j;show (if Fb (shC c) (enc c j).length=true then _ else none)=_;rw[if_pos O];exact q
  |f x l=>
   simp only[zM,AF]at B;cases fs with
   |nil=>simp[fX]at y|cons n fs=>
    simp only[fX,AJ,CL]at y;have Q:xr R n=x:=by
     unfold xr;cases J:R[n]? with
     |none=>rw[J]at y;simp at y|some g=>rw[J]at y;simpa using y.1
    have q:=N0 ks (i+1) fs E (S.Jt i .one [.fn n (Oz i l j)]) B.2 y.2;rw[Ld]at q;have L:Lv.Oz i (Rq l j)=some ((Oz i l j).map Cap.fg):=n6 i l j B.1;show (match Lv.Oz i (Rq l j) with|some ls=>Lv.initK (i+1) _ _ _|none=>none)=_;rw[L];simp only[AJ,BM,AS.fg,Q]at q;exact q
theorem NB:∀{rs:List G7} {S:St} {K:List (Option Nat)->List AS->Option ρ} {r:ρ},MJ rs S K=some r->∃ns ls,Lv.MJ rs (S.fg R)=some (ns,ls.map (AS.fg R))/\K ns ls=some r
 | [],S,K,r,h=>⟨[],[],rfl,h⟩|.tmp t::rs,S,K,r,h=>by
  simp only[MJ]at h;split at h
  .rename_i e y;split at h
   .rename_i E;obtain⟨ns,ls,j,q⟩:=NB h;refine⟨_,_,?_,q⟩;have:=LB (R:=R) y;simp only[YO.er]at this;simp only[Lv.MJ,this,j,En.fg,Ah,E,if_true,DQ];rfl
   .cases h
  .cases h
 |.cell t n::rs,S,K,r,h=>by
  simp only[MJ]at h;split at h
  .rename_i id o y;obtain⟨ls',j,h⟩:=Qx (R:=R) h;obtain⟨ns,ls,q,B⟩:=NB h;refine⟨_,_,?_,B⟩;have:=EY (R:=R) y;simp only[YO.er,AS.fg]at this j;simp only[Lv.MJ,this,j,q,DQ]
  .cases h
 |.bx _::rs,S,K,r,h=>by cases h
 |.vw _ _::rs,S,K,r,h=>by cases h
 |.un _ _::rs,S,K,r,h=>by cases h
theorem me:∀{ls:List AS},N3 ls=true->Lv.N3 (ls.map (AS.fg R))=true
 | [],_=>rfl|l::ls,h=>by
  simp only[N3,AF]at h;simp only[AJ,Lv.N3,AF];refine⟨?_,me h.2⟩;have j:=h.1
  grind[AS.fg,gy]
theorem ARl{rk:RK}{rs:List G7}{S:St}{K:St->List U->Option ρ}{r:ρ}(h:Z3 rk rs S K=some r):∃S' us,Lv.Z3 rs (S.fg R)=some (S'.fg R,rk.sh,us.map U.fg)/\K S' us=some r:=by
 unfold Z3 at h;split at h
 .rename_i k c t;split at h
  .rename_i id y;have j:=EY (R:=R) y;simp only[YO.er,AS.fg]at j;split at h
   .rename_i ls Y;split at h
    .cases h
    .rename_i L;split at h
     .rename_i E;split at h
      .rename_i us G;subst E;refine⟨S,us,?_,h⟩;have O:id∉(S.fg R).pin:=fun X=>L (mem_iff.2 X)
       simp only[Lv.Z3,j,Pm,Y,An,N1,PO G];rw[if_neg O];rfl
      .cases h
     .cases h
   .cases h
  .cases h
 .rename_i k c t k';split at h
  .rename_i E;subst E;split at h
   .rename_i k'' c' xs y;have j:=EY (R:=R) y;simp only[YO.er,AS.fg]at j;split at h
    .rename_i E;subst E;exact⟨S,_,by simp only[Lv.Z3,j,if_true];rfl,h⟩
    .cases h
   .rename_i q sub y;have j:=EY (R:=R) y;simp only[YO.er,AS.fg]at j;split at h
    .rename_i x Z;refine⟨_,_,?_,h⟩;simp only[Lv.Z3,j,KJ,Z,An,AS.fg,Yn,AJ,BM,XS];rfl
    .cases h
   .cases h
  .cases h
 .rename_i n c cs t n' r' rs;split at h
  .rename_i J;subst J;split at h
   .rename_i id o y;have B:=EY (R:=R) y;obtain⟨ls',Q,h⟩:=Qx (R:=R) h;simp only[YO.er,AS.fg]at B Q;split at h
    .rename_i L;obtain⟨ns,ls,j,h⟩:=NB (R:=R) h;split at h
     .rename_i I;split at h
      .rename_i S' us G;obtain⟨H,_⟩:=Lc (R:=R) G;refine⟨S',_,?_,h⟩;simp only[Lv.Z3,B,Q];rw[if_pos (me L),j];dsimp only;rw[H,I];simp only[DQ,GH];rfl
      .cases h
     .cases h
    .cases h
   .cases h
  .cases h
 .rename_i cs;obtain⟨ns,ls,j,h⟩:=NB (R:=R) h;split at h
  .rename_i I;split at h
   .rename_i S' us G;obtain⟨H,_⟩:=Lc (R:=R) G;refine⟨S',us,?_,h⟩;have:Lv.Z3 rs (S.fg R)=match Lv.MJ rs (S.fg R) with
     |some (ns,ls)=>(match Lv.DI (S.fg R) ls with|some (S',cs)=>some (S',zt ns,cs)|none=>none)
     |none=>none:=by
     rcases rs with _|⟨a,_|⟨b,rs⟩⟩
     .rfl
     .cases a<;>first|rfl|(simp[Lv.MJ]at j)
     .cases a<;>first|rfl|(simp[Lv.MJ]at j)
    rw[this,j];dsimp only;rw[H,I];rfl
   .cases h
  .cases h
 .cases h
theorem ATZ{l:AS}{u:U}(h:owT l=some u):Lv.owT (AS.fg R l)=some u.fg:=by
 cases l with
 |ow x=>cases h;rfl
 |t x=>
  grind[owT,AS.fg,Lv.owT,gy]
 |_=>cases h
theorem AGH:∀{ls:List AS} {us:List U},Zz ls=some us->Lv.Zz (ls.map (AS.fg R))=some (us.map U.fg)/\us.length=ls.length
 | [],us,h=>by cases h;exact⟨rfl,rfl⟩
 |l::ls,us,h=>by
  simp only[Zz]at h;split at h
  .rename_i x xs j q;cases h;obtain⟨y,B⟩:=AGH q;simp only[AJ,Lv.Zz,ATZ j,y,AI,B];exact⟨trivial,trivial⟩
  .cases h
theorem bH{k:Nat}:∀{ls:List AS} {us:List U},E1 k ls=some us->us.length=ls.length
 | [],us,h=>by cases h;rfl
 |l::ls,us,h=>by
  simp only[E1]at h;split at h
  .rename_i x xs q j;cases h;simp only[AI,bH j]
  .cases h
def chunks:List C->List U->List (List U)| [],_=>[]|c::cs,us=>us.take c.size::chunks cs (us.drop c.size)
theorem bO:∀(cs:List C) (us:List U),(chunks cs us).length=cs.length| [],_=>rfl|c::cs,us=>by simp only[chunks,AI,bO cs]
theorem ZA:∀(cs:List C) (us:List U),us.length=UK cs->(chunks cs us).flatten=us
 | [],us,h=>by cases us with|nil=>rfl|cons u us=>cases h
 |c::cs,us,h=>by
  simp only[UK]at h;simp only[chunks,List.flatten_cons];rw[ZA cs _ (by rw[BD];omega),Hq]
theorem bN:∀(cs j:List C) (us os:List U),us.length=UK cs->chunks (cs++j) (us++os)=chunks cs us++chunks j os
 | [],j,us,os,h=>by cases us with|nil=>rfl|cons u us=>cases h
 |c::cs,j,us,os,h=>by
  simp only[UK]at h;simp only[List.cons_append,chunks];rw[List.take_append_of_le_length (by omega),List.drop_append_of_le_length (by omega),bN cs j _ os (by rw[BD];omega)]
theorem iU:∀{cs:List C} {us:List U} {x:Tu cs},ofT cs us=some x->SK cs x=(chunks cs us).map (List.map U.fg)
 | [],us,x,h=>rfl| [c],us,x,h=>by
  have j:ofC c us=some x:=h;show [enc c x]=_;rw[IJ j];simp only[chunks,AJ,BM];rw[List.take_of_length_le (by rw[ARR j];exact Ab _)]
 |c::q::cs,us,x,h=>by
  simp only[ofT]at h;split at h
  .rename_i a b y B;cases h;show enc c a::SK (q::cs) b=_;rw[IJ y,iU B];rfl
  .cases h
theorem LU{S:St}:∀{ks:List PK} {i:Nat} {os:List U},Ee i ks S=some os->Lv.Ee i (ks.map PK.md) (S.fg R)=some ((chunks (MG ks) os).map (List.map U.fg))/\os.length=UK (MG ks)
 | [],i,os,h=>by cases h;exact⟨rfl,rfl⟩
 |.b c::ks,i,os,h=>by
  simp only[Ee]at h;split at h
  .rename_i ls J B E;obtain⟨G,H⟩:=LU (ks:=ks) E;split at h
   .rename_i q;split at h
    .rename_i us y;cases h;have j:us.length=c.size:=by rw[bH y,q.2]
     have I:i∈(S.fg R).pin:=mem_iff.1 q.1;refine⟨?_,by simp only[AN,MG,UK,j,H]⟩;simp only[AJ,PK.md,Lv.Ee,Pm,B,An,G,MG,chunks];rw[if_pos I,PO y,Ce j,CU j];rfl
    .cases h
   .cases h
  .cases h
 |.m c::ks,i,os,h=>by
  simp only[Ee]at h;split at h
  .rename_i e J B E;obtain⟨G,H⟩:=LU (ks:=ks) E;split at h
   .rename_i q;split at h
    .rename_i us y;cases h;obtain⟨L,O⟩:=AGH (R:=R) y;have j:us.length=c.size:=by rw[O,q.2.2]
     have I:i∈(S.fg R).pin:=mem_iff.1 q.1;refine⟨?_,by simp only[AN,MG,UK,j,H]⟩;simp only[AJ,PK.md,Lv.Ee,Wd,B,An,G,MG,chunks,Ent.fg,Ah];rw[if_pos ⟨I,q.2.1⟩,L,Ce j,CU j];rfl
    .cases h
   .cases h
  .cases h
 |.v c::ks,i,os,h=>LU (ks:=ks) h|.p c::ks,i,os,h=>LU (ks:=ks) h|.o c::ks,i,os,h=>LU (ks:=ks) h|.f x l::ks,i,os,h=>LU (ks:=ks) h
theorem yQ:∀(cs:List C) (x:Tu cs),(SK cs x).map List.length=cs.map C.size
 | [],x=>rfl| [c],x=>congrArg (fun n=>[n]) (Ob c x)|c::j::cs,x=>by
  obtain⟨a,b⟩:=x;show (enc c a).length::(SK (j::cs) b).map List.length=_;rw[yQ (j::cs) b,Ob];rfl
theorem LS:∀(ks:List PK) (a:A ks) (os:List (List T)),os.map List.length=(MG ks).map C.size->Lv.Fy (ks.map PK.md) (aVs ks a) os=true
 | [],a,[],h=>rfl| [],a,o::os,h=>by cases h
 |.b c::ks,a,[],h=>by cases h
 |.b c::ks,a,o::os,h=>by
  obtain⟨j,q⟩:=a;simp only[MG,AJ,CL]at h;have y:(enc c j).length=c.size:=Ob c j;show (o.length==(enc c j).length&&Lv.Fy (ks.map PK.md) (aVs ks q) os)=true;rw[y,h.1,LS ks q os h.2];simp
 |.m c::ks,a,[],h=>by cases h
 |.m c::ks,a,o::os,h=>by
  simp only[MG,AJ,CL]at h;exact LS ks a.2 os h.2
 |.v c::ks,a,os,h=>LS ks a.2 os h|.p c::ks,a,os,h=>LS ks a.2 os h|.o c::ks,a,os,h=>LS ks a.2 os h|.f x l::ks,a,os,h=>LS ks a.2 os h
end
def YF.er(f:YF):B3:=.mk (f.ps.map PK.md) f.rs f.body.er
theorem AA3{f:YF}{S:St}{r:Tu (f.rk.cs++MG f.ps)}(h:fin f.ps f.rk f.rs S=some r) :
 Lv.fin (f.ps.map PK.md) f.rs (S.fg f.R) f.rk.sh ((SK _ r).take f.rk.cs.length).flatten ((SK _ r).drop f.rk.cs.length):=by
 unfold fin at h;obtain⟨S',us,B,h⟩:=ARl (R:=f.R) h;split at h
 .rename_i os G;split at h
  .rename_i y;obtain⟨E,H⟩:=LU (R:=f.R) G;have q:=iU h;rw[bN _ _ _ _ y,DQ]at q;have j:((chunks f.rk.cs us).map (List.map U.fg)).length=f.rk.cs.length:=by rw[Ah,bO]
   rw[q,Ce j,CU j];refine⟨S'.fg f.R,?_,E⟩;rw[B,<-Jy,ZA _ _ y]
  .cases h
 .cases h
theorem YF.sound{f:YF}(q:zM f.ps=true)(j:f.fs.map (fun n=>(f.R[n]?).map GF.x)=(fX f.ps).map some){a:A f.ps}{r:Tu (f.rk.cs++MG f.ps)}(h:f.run a=some r) :
 Ji f.er (aVs f.ps a) f.rk.sh ((SK _ r).take f.rk.cs.length).flatten ((SK _ r).drop f.rk.cs.length):=by
 unfold YF.run at h;rw[EV]at h;refine .intro ⟨_,N0 (R:=f.R) f.ps 0 f.fs a ⟨[],[],[],0⟩ q j,?_,?_⟩
 .grind[Dq,AA3]
 grind[LS,yQ,MG,List.map_drop,List.drop_left',List.length_map]
def YF.gf(f:YF)(hp:zM f.ps=true)(hf:f.fs.map (fun n=>(f.R[n]?).map GF.x)=(fX f.ps).map some)(d:A f.ps->Option (Tu (f.rk.cs++MG f.ps)))(hd:∀a,f.run a=d a):GF:=
 ⟨f.er,f.ps,f.rk,d,rfl,fun a r h=>YF.sound hp hf ((hd a).trans h)⟩
end Y
end Lv
namespace Lv
open Y
open Go
def j9(c:C)(xs:List c.D)(i:Int)(ys:List c.D):Option (List c.D):=
 if 0<=i/\i.toNat<=xs.length/\ys≠[]/\xs.length+ys.length<=lim then some (xs.take i.toNat++ys++xs.drop i.toNat) else none
theorem ANl{c:C}(q:T7 c=true)(xs:List c.D)(i:Int)(ys:List c.D)(r:List c.D)(h:j9 c xs i ys=some r) :
 Ji (.Mf (2*c.size) [.o,.v,.v]) [.o .one (enc (.l c) xs),.v .one (enc .i i),.v .one (enc (.l c) ys)] .one (enc (.l c) r) []:=by
 unfold j9 at h;split at h
 .rename_i j;cases h;intro Rn hRn;refine hRn _ _ _ _ _ ?_;show T1 (2*c.size) _ _ _ _;unfold T1;refine⟨by omega,?_⟩;rw[if_pos (by omega)];refine⟨_,xs.map (enc c),_,ys.map (enc c),i,rfl,rfl,?_,rfl,?_,Ik q _,Ik q _,j.1,by simpa using j.2.1,by simpa using j.2.2.1,by simpa using j.2.2.2,rfl,?_,rfl⟩
  .simp[eOf]
  .simp[eOf]
  .show [T.sl c.size ((xs.take i.toNat++ys++xs.drop i.toNat).map (enc c))]=_;simp[CX,CI]
 .cases h
def ATA(c:C)(hf:T7 c=true):GF:=
 ⟨.Mf (2*c.size) [.o,.v,.v],[.o (.l c),.v .i,.v (.l c)],.ret [.l c],fun a=>j9 c a.1 a.2.1 a.2.2.1,rfl,fun a r h=>ANl hf _ _ _ r h⟩
def yM(c:C)(xs:List c.D)(i j:Int):Option (List c.D):=
 if 0<=i/\i<j/\j<=xs.length then some (xs.take i.toNat++xs.drop j.toNat) else none
theorem AKV{c:C}(E:T7 c=true)(y:decide (0<c.size)=true)(xs:List c.D)(i j:Int)(r:List c.D)(h:yM c xs i j=some r) :
 Ji (.Mf (2*c.size+1) [.o,.v,.v]) [.o .one (enc (.l c) xs),.v .one (enc .i i),.v .one (enc .i j)] .one (enc (.l c) r) []:=by
 unfold yM at h;split at h
 .rename_i q;cases h;intro Rn hRn;refine hRn _ _ _ _ _ ?_;show T1 (2*c.size+1) _ _ _ _;unfold T1;have B:(2*c.size+1) / 2=c.size:=by omega
  have y:=of_decide_eq_true y;refine⟨by omega,?_⟩;rw[if_neg (by omega),B];refine⟨xs.map (enc c),i,j,rfl,Ik E _,q.1,q.2.1,by simpa using q.2.2,rfl,?_,rfl⟩;show [T.sl c.size ((xs.take i.toNat++xs.drop j.toNat).map (enc c))]=_;simp[CX,CI]
 .cases h
def AS0(c:C)(hf:T7 c=true)(hs:decide (0<c.size)=true):GF:=
 ⟨.Mf (2*c.size+1) [.o,.v,.v],[.o (.l c),.v .i,.v .i],.ret [.l c],fun a=>yM c a.1 a.2.1 a.2.2.1,rfl,fun a r h=>AKV hf hs _ _ _ r h⟩
structure tn(ps:List PK)(rk:RK) where
 x:B3
 d:A ps->Option (Tu (rk.cs++MG ps))
 ms:D9 x=ps.map PK.md
 ok:∀a r,d a=some r->Ji x (aVs ps a) rk.sh ((SK _ r).take rk.cs.length).flatten ((SK _ r).drop rk.cs.length)
def tn.gf{ps:List PK}{rk:RK}(r:tn ps rk):GF:=⟨r.x,ps,rk,r.d,r.ms,r.ok⟩
def tn.of(g:GF):tn g.ps g.rk:=⟨g.x,g.d,g.ms,g.ok⟩
def tn.nil(ps:List PK)(rk:RK):tn ps rk:=⟨.Mf 1 (ps.map PK.md),fun _=>none,rfl,fun _ _ h=>by cases h⟩
end Lv
namespace Lv
open Go (IntKind BinOp UnOp)
section
variable{a b c d e f g h:Type}
def Bg(k:a->h)(x:a×b):h:=k x.1
def A8(k:a->b->h)(x:a×b×c):h:=k x.1 x.2.1
def F3(k:a->b->c->h)(x:a×b×c×d):h:=k x.1 x.2.1 x.2.2.1
def VI(k:a->b->c->d->h)(x:a×b×c×d×e):h:=k x.1 x.2.1 x.2.2.1 x.2.2.2.1
def ADC(k:a->b->c->d->e->h)(x:a×b×c×d×e×f):h:=k x.1 x.2.1 x.2.2.1 x.2.2.2.1 x.2.2.2.2.1
def ADD(k:a->b->c->d->e->f->h)(x:a×b×c×d×e×f×g):h:=k x.1 x.2.1 x.2.2.1 x.2.2.2.1 x.2.2.2.2.1 x.2.2.2.2.2.1
end
namespace Y
def YF.ED(f:YF)(d:A f.ps->Option (Tu (f.rk.cs++MG f.ps)))(hd:∀a,f.run a=d a:=by intro a;kernel_rfl)(hp:zM f.ps=true:=by rfl)(hf:f.fs.map (fun n=>(f.R[n]?).map GF.x)=(fX f.ps).map some:=by rfl):GF:=f.gf hp hf d hd
end Y
def Y0{γ:Type}(x y:CH)(X:Option γ):Option γ:=eqv x.Data y.Data (eqv x.Safe y.Safe X)
theorem Ov{γ:Type}(x:CH)(X:Option γ):Y0 x x X=X:=by unfold Y0;simp only[CQ]
def RL{γ:Type}(x y:Ca)(X:Option γ):Option γ:=eqv x.Code y.Code (eqv x.Ids y.Ids X)
theorem tX{γ:Type}(x:Ca)(X:Option γ):RL x x X=X:=by unfold RL;simp only[CQ]
def tZ{γ:Type}(x y:C9)(X:Option γ):Option γ:=eqv x.Sf y.Sf (eqv x.at_ y.at_ (eqv x.uE y.uE X))
theorem ta{γ:Type}(x:C9)(X:Option γ):tZ x x X=X:=by unfold tZ;simp only[CQ]
def IM{γ:Type}(x y:AY)(X:Option γ):Option γ:=eqv x.b_ y.b_ (eqv x.i_ y.i_ (eqv x.h_ y.h_ X))
theorem Ku{γ:Type}(x:AY)(X:Option γ):IM x x X=X:=by unfold IM;simp only[CQ]
def tV{γ:Type}(x y:Ae)(X:Option γ):Option γ:=eqv x.Level y.Level (eqv x.As y.As (eqv x.Id y.Id (eqv x.A5 y.A5 X)))
theorem tW{γ:Type}(x:Ae)(X:Option γ):tV x x X=X:=by unfold tV;simp only[CQ]
def ASd{γ:Type}(x y:B9)(X:Option γ):Option γ:=eqv x.Kind y.Kind (eqv x.Id y.Id (eqv x.AX y.AX (eqv x.BY y.BY (eqv x.A5 y.A5 (eqv x.Ci y.Ci X)))))
theorem RM{γ:Type}(x:B9)(X:Option γ):ASd x x X=X:=by unfold ASd;simp only[CQ]
def tY{γ:Type}(x y:CN)(X:Option γ):Option γ:=eqv x.Log.Data y.Log.Data (eqv x.Log.Safe y.Log.Safe (eqv x.GG.Data y.GG.Data (eqv x.GG.Safe y.GG.Safe (eqv x.Odd.Data y.Odd.Data (eqv x.Odd.Safe y.Odd.Safe X)))))
theorem NI{γ:Type}(x:CN)(X:Option γ):tY x x X=X:=by unfold tY;simp only[CQ]
def CG{γ:Type}(x y:Aa)(X:Option γ):Option γ:=eqv x.AW y.AW (eqv x.CK y.CK (eqv x.Room y.Room (eqv x.A5 y.A5 (eqv x.CD y.CD (eqv x.Bq y.Bq (eqv x.Rest y.Rest (eqv x.CP y.CP (eqv x.Cr y.Cr X))))))))
theorem Kt{γ:Type}(x:Aa)(X:Option γ):CG x x X=X:=by unfold CG;simp only[CQ]
def Ks{γ:Type}(x y:AQ)(X:Option γ):Option γ:=eqv x.Id y.Id (eqv x.AX y.AX (eqv x.BY y.BY (eqv x.A5 y.A5 (eqv x.Ci y.Ci (eqv x.Since y.Since (eqv x.As y.As (eqv x.State y.State (eqv x.CW y.CW (eqv x.Cn y.Cn X)))))))))
theorem D7{γ:Type}(x:AQ)(X:Option γ):Ks x x X=X:=by unfold Ks;simp only[CQ]
def D6{γ:Type}(x y:AE)(X:Option γ):Option γ:=eqv x.AR.AW y.AR.AW (eqv x.AR.CK y.AR.CK (eqv x.AR.Room y.AR.Room (eqv x.AR.A5 y.AR.A5 (eqv x.AR.CD y.AR.CD (eqv x.AR.Bq y.AR.Bq (eqv x.AR.Rest y.AR.Rest (eqv x.AR.CP y.AR.CP (eqv x.AR.Cr y.AR.Cr (eqv x.Now y.Now (eqv x.As y.As (eqv x.AG y.AG (eqv x.AH y.AH (eqv x.Az y.Az (eqv x.Ay y.Ay X))))))))))))))
theorem I2{γ:Type}(x:AE)(X:Option γ):D6 x x X=X:=by unfold D6;simp only[CQ]
def AAW{γ:Type}(x y:Ap)(X:Option γ):Option γ:=eqv x.BU.AR.AW y.BU.AR.AW (eqv x.BU.AR.CK y.BU.AR.CK (eqv x.BU.AR.Room y.BU.AR.Room (eqv x.BU.AR.A5 y.BU.AR.A5 (eqv x.BU.AR.CD y.BU.AR.CD (eqv x.BU.AR.Bq y.BU.AR.Bq (eqv x.BU.AR.Rest y.BU.AR.Rest (eqv x.BU.AR.CP y.BU.AR.CP (eqv x.BU.AR.Cr y.BU.AR.Cr (eqv x.BU.Now y.BU.Now (eqv x.BU.As y.BU.As (eqv x.BU.AG y.BU.AG (eqv x.BU.AH y.BU.AH (eqv x.BU.Az y.BU.Az (eqv x.BU.Ay y.BU.Ay (eqv x.Bi.Log.Data y.Bi.Log.Data (eqv x.Bi.Log.Safe y.Bi.Log.Safe (eqv x.Bi.GG.Data y.Bi.GG.Data (eqv x.Bi.GG.Safe y.Bi.GG.Safe (eqv x.Bi.Odd.Data y.Bi.Odd.Data (eqv x.Bi.Odd.Safe y.Bi.Odd.Safe (eqv x.Seq y.Seq (eqv x.Laid y.Laid X))))))))))))))))))))))
theorem Li{γ:Type}(x:Ap)(X:Option γ):AAW x x X=X:=by unfold AAW;simp only[CQ]
def Dz:List U:=[.nil,.int .i64 0,.int .i64 0,.int .i64 0,.int .i64 0,.int .i64 0,.int .i64 0,.int .i64 0,.int .i64 0,.int .i64 0,.int .i64 0,.nil,.nil,.nil,.nil]
def Ho:List U:=[.int .i64 0,.int .i64 0,.int .i64 0,.int .i64 0,.int .i64 0,.int .i64 0,.int .i64 0,.int .i64 0,.int .i64 0,.int .i64 0]
def Jc:List U:=[.int .i64 0,.int .i64 0,.int .i64 0,.int .i64 0,.int .i64 0,.int .i64 0]
def ev2{α0 α1 γ:Type}(a0:α0)(a1:α1)(X:Option γ):Option γ:=eqv a0 a0 (eqv a1 a1 X)
theorem Ic{α0 α1 γ:Type}(a0:α0)(j:α1)(X:Option γ):ev2 a0 j X=X:=by unfold ev2;simp only[CQ]
def ev3{α0 α1 α2 γ:Type}(a0:α0)(a1:α1)(a2:α2)(X:Option γ):Option γ:=eqv a0 a0 (eqv a1 a1 (eqv a2 a2 X))
theorem Ie{α0 α1 α2 γ:Type}(a0:α0)(j:α1)(q:α2)(X:Option γ):ev3 a0 j q X=X:=by unfold ev3;simp only[CQ]
def ev4{α0 α1 α2 α3 γ:Type}(a0:α0)(a1:α1)(a2:α2)(a3:α3)(X:Option γ):Option γ:=eqv a0 a0 (eqv a1 a1 (eqv a2 a2 (eqv a3 a3 X)))
theorem Ig{α0 α1 α2 α3 γ:Type}(a0:α0)(j:α1)(q:α2)(a3:α3)(X:Option γ):ev4 a0 j q a3 X=X:=by unfold ev4;simp only[CQ]
def ev5{α0 α1 α2 α3 α4 γ:Type}(a0:α0)(a1:α1)(a2:α2)(a3:α3)(a4:α4)(X:Option γ):Option γ:=eqv a0 a0 (eqv a1 a1 (eqv a2 a2 (eqv a3 a3 (eqv a4 a4 X))))
theorem Ih{α0 α1 α2 α3 α4 γ:Type}(a0:α0)(j:α1)(q:α2)(a3:α3)(a4:α4)(X:Option γ):ev5 a0 j q a3 a4 X=X:=by unfold ev5;simp only[CQ]
def ev6{α0 α1 α2 α3 α4 α5 γ:Type}(a0:α0)(a1:α1)(a2:α2)(a3:α3)(a4:α4)(a5:α5)(X:Option γ):Option γ:=eqv a0 a0 (eqv a1 a1 (eqv a2 a2 (eqv a3 a3 (eqv a4 a4 (eqv a5 a5 X)))))
theorem H5{α0 α1 α2 α3 α4 α5 γ:Type}(a0:α0)(j:α1)(q:α2)(a3:α3)(a4:α4)(y:α5)(X:Option γ):ev6 a0 j q a3 a4 y X=X:=by unfold ev6;simp only[CQ]
def ev7{α0 α1 α2 α3 α4 α5 α6 γ:Type}(a0:α0)(a1:α1)(a2:α2)(a3:α3)(a4:α4)(a5:α5)(a6:α6)(X:Option γ):Option γ:=eqv a0 a0 (eqv a1 a1 (eqv a2 a2 (eqv a3 a3 (eqv a4 a4 (eqv a5 a5 (eqv a6 a6 X))))))
theorem Ii{α0 α1 α2 α3 α4 α5 α6 γ:Type}(a0:α0)(j:α1)(q:α2)(a3:α3)(a4:α4)(y:α5)(B:α6)(X:Option γ):ev7 a0 j q a3 a4 y B X=X:=by unfold ev7;simp only[CQ]
def ev8{α0 α1 α2 α3 α4 α5 α6 α7 γ:Type}(a0:α0)(a1:α1)(a2:α2)(a3:α3)(a4:α4)(a5:α5)(a6:α6)(a7:α7)(X:Option γ):Option γ:=eqv a0 a0 (eqv a1 a1 (eqv a2 a2 (eqv a3 a3 (eqv a4 a4 (eqv a5 a5 (eqv a6 a6 (eqv a7 a7 X)))))))
theorem Ij{α0 α1 α2 α3 α4 α5 α6 α7 γ:Type}(a0:α0)(j:α1)(q:α2)(a3:α3)(a4:α4)(y:α5)(B:α6)(E:α7)(X:Option γ):ev8 a0 j q a3 a4 y B E X=X:=by unfold ev8;simp only[CQ]
def orE{ρ:Type}(a b:Option ρ):Option ρ:=match a with|some r=>some r|none=>b
namespace Y
section
variable{R:List GF}
def qn(l:List (YOp R)):List (Option (Nat×Bool)×YOp R):=l.map fun o=>(none,o)
def qf(g:Nat)(l:List (YOp R)):List (Option (Nat×Bool)×YOp R):=l.map fun o=>(some (g,false),o)
def qt(g:Nat)(l:List (YOp R)):List (Option (Nat×Bool)×YOp R):=l.map fun o=>(some (g,true),o)
def qr(l:List (List (Option (Nat×Bool)×YOp R)))(E4:List Nat):F7 R:=.region l.flatten E4
def q1(l:List (YOp R))(E4:List Nat):F7 R:=.region (qn l) E4
def qdl(r:Bd R):Nat->List (Option (Nat×Bool)×YOp R)->Bd R|_,[]=>r|i,o::l=>.op i o.1 [] o.2 (qdl r (i+1) l)
def qd(i:Nat)(l:List (List (Option (Nat×Bool)×YOp R)))(r:Bd R):Bd R:=qdl r i l.flatten
def qm(d s:Nat):YOp R:=.mv d (.tmp s)
def qa(d s:Nat):YOp R:=.as d (.tmp s)
def qo(d o s:Nat):YOp R:=.fa d o (.tmp s)
def ql(d s:Nat):YOp R:=.ld d none (.tmp s)
def qL(d n s:Nat):YOp R:=.ld d (some n) (.tmp s)
def qb(d:Nat)(o:BinOp)(x y:Nat):YOp R:=.bin d .num o (.tmp x) (.tmp y)
def qi(d:Nat)(o:BinOp)(x:Nat)(n:Int):YOp R:=.bin d .num o (.tmp x) (.k (.int .i64 n))
def qx(d s:Nat):YOp R:=.un d .not (.tmp s)
def qp(d c x:Nat):YOp R:=.pick d (.tmp c) (.k (.bool true)) (.tmp x)
def qq(d c x:Nat):YOp R:=.pick d (.tmp c) (.tmp x) (.k (.bool false))
def qc(d:Nat)(g:GF)(hf:([]:List Nat).map (fun n=>(R[n]?).map GF.x)=(fX g.ps).map some)(l:List Nat):YOp R:=.call d g [] hf (l.map .tmp)
def qz(d s:Nat):YOp R:=.len d (.tmp s)
def qe(d:Nat)(c:C)(x i:Nat):YOp R:=.ia d c (.tmp x) (.tmp i)
def qk(d:Nat)(n:Int):YOp R:=.mv d (.k (.int .i64 n))
def qK(d:Nat)(n:Int):YOp R:=.as d (.k (.int .i64 n))
def qB(d:Nat)(b:Bool):YOp R:=.as d (.k (.bool b))
def qw(n x v:Nat):YOp R:=.st n (.tmp x) (.tmp v)
def qu(d s:Nat):YOp R:=.box d (.tmp s)
def qj(n:Int):YO:=.k (.int .i64 n)
instance (n:Nat):OfNat YO n:=⟨.tmp n⟩
def kpF:Nat->Nat->Nat->List Nat
 |0,_,_=>[]|f+1,i,n=>match Nat.beq n 0 with|true=>[]|false=>match Nat.testBit n 0 with|true=>i::kpF f (i+1) (n / 2)|false=>kpF f (i+1) (n / 2)
def wU:Nat->List (Nat->Nat->YOp R)->List (YOp R)|_,[]=>[]|0,f::l=>f 0 0::wU 1 l|k+1,f::l=>f (k+1) k::wU (k+2) l
def wn(d:Nat)(l:List (Nat->Nat->YOp R)):List (Option (Nat×Bool)×YOp R):=qn (wU d l)
def wf(g d:Nat)(l:List (Nat->Nat->YOp R)):List (Option (Nat×Bool)×YOp R):=qf g (wU d l)
def wt(g d:Nat)(l:List (Nat->Nat->YOp R)):List (Option (Nat×Bool)×YOp R):=qt g (wU d l)
def w1(d:Nat)(l:List (Nat->Nat->YOp R))(E4:List Nat):F7 R:=q1 (wU d l) E4
def sw(d:Nat)(l:List (Nat->Nat->YOp R))(E4:List Nat)(b:F7 R):F7 R:=.seq (q1 (wU d l) E4) b
def sq(l:List (YOp R))(E4:List Nat)(b:F7 R):F7 R:=.seq (q1 l E4) b
def sr(l:List (List (Option (Nat×Bool)×YOp R)))(E4:List Nat)(b:F7 R):F7 R:=.seq (qr l E4) b
def wm(s d _p:Nat):YOp R:=.mv d (.tmp s)
def wM(d p:Nat):YOp R:=.mv d (.tmp p)
def wo(o s d _p:Nat):YOp R:=.fa d o (.tmp s)
def wO(o d p:Nat):YOp R:=.fa d o (.tmp p)
def wl(s d _p:Nat):YOp R:=.ld d none (.tmp s)
def wL(d p:Nat):YOp R:=.ld d none (.tmp p)
def wk(n s d _p:Nat):YOp R:=.ld d (some n) (.tmp s)
def wK(n d p:Nat):YOp R:=.ld d (some n) (.tmp p)
def wz(s d _p:Nat):YOp R:=.len d (.tmp s)
def wZ(d p:Nat):YOp R:=.len d (.tmp p)
def wx(s d _p:Nat):YOp R:=.un d .not (.tmp s)
def wX(d p:Nat):YOp R:=.un d .not (.tmp p)
def wb(o:BinOp)(x y d _p:Nat):YOp R:=.bin d .num o (.tmp x) (.tmp y)
def wB(o:BinOp)(x d p:Nat):YOp R:=.bin d .num o (.tmp x) (.tmp p)
def wi(o:BinOp)(x:Nat)(n:Int)(d _p:Nat):YOp R:=.bin d .num o (.tmp x) (.k (.int .i64 n))
def wI(o:BinOp)(n:Int)(d p:Nat):YOp R:=.bin d .num o (.tmp p) (.k (.int .i64 n))
def wr(c x d _p:Nat):YOp R:=.pick d (.tmp c) (.k (.bool true)) (.tmp x)
def wR(c d p:Nat):YOp R:=.pick d (.tmp c) (.k (.bool true)) (.tmp p)
def wq(c x d _p:Nat):YOp R:=.pick d (.tmp c) (.tmp x) (.k (.bool false))
def wQ(c d p:Nat):YOp R:=.pick d (.tmp c) (.tmp p) (.k (.bool false))
def we(c:C)(x i d _p:Nat):YOp R:=.ia d c (.tmp x) (.tmp i)
def wE(c:C)(x d p:Nat):YOp R:=.ia d c (.tmp x) (.tmp p)
def wc(g:GF)(hf:([]:List Nat).map (fun n=>(R[n]?).map GF.x)=(fX g.ps).map some)(l:List YO)(d _p:Nat):YOp R:=.call d g [] hf l
def wY(g:GF)(hf:([]:List Nat).map (fun n=>(R[n]?).map GF.x)=(fX g.ps).map some)(d p:Nat):YOp R:=.call d g [] hf [.tmp p]
def wj(n:Int)(d _p:Nat):YOp R:=.mv d (.k (.int .i64 n))
def wh(f:Nat->YOp R)(d _p:Nat):YOp R:=f d
def Kp(n:Nat):List Nat:=kpF 300 0 n
def cv(n:Nat)(c:C):Bool×Nat×Sh×List AL:=(false,n,.one,[.val c none])
def ca(n:Nat)(c:C):Bool×Nat×Sh×List AL:=(false,n,.agg,[.val c none])
def cx(n:Nat)(c:C):Bool×Nat×Sh×List AL:=(true,n,.one,[.val c none])
def cn(c:Nat)(ke:List Nat)(t:F7 R):F7 R:=.cond c [] ke t .skip
def ce(c:Nat)(kt ke:List Nat)(id:Nat):F7 R:=.cond c kt ke .skip (.exit id)
def bl(id:Nat)(c:Cut)(b:F7 R):F7 R:=.block id (.loop c b)
end
end Y
end Lv
namespace Lv
open Go
section
variable{A:Nat->Nat->List Md->Prop}{P:Program}
def fnd(n:Nat)(ms:List Md):List (Nat×B3)->Option B3
 | []=>none|p::r=>match Nat.beq p.1 n&&decide (D9 p.2=ms) with|true=>some p.2|false=>fnd n ms r
theorem pE {n ms x}:∀{r:List (Nat×B3)},fnd n ms r=some x->(n,x)∈r
 | [],h=>by cases h
 |(k,y)::r,h=>by
  unfold fnd at h;split at h
  .rename_i j;cases h;rw[AF]at j;have q:k=n:=Nat.eq_of_beq_eq_true j.1;subst q;exact BQ
  .exact Aq _ (pE h)
theorem Mt.at{r:List (Nat×B3)} {n x} (h:∀p∈r,Mt A P p.1 p.2) (e:fnd n (D9 x) r=some x):Mt A P n x:=h _ (pE e)
def caO(P:Program)(p:Nat×B3):List (Nat×B3):=match P.funcs[p.1]? with|some fn=>ADe fn p.2|none=>[]
def okO(P:Program)(p:Nat×B3):Bool:=match P.funcs[p.1]? with|some fn=>ARS P fn p.2|none=>false
def okM(P:Program):List (Nat×B3)->Bool| []=>true|p::l=>okO P p&&okM P l
def caM(P:Program):List (Nat×B3)->List (List (Nat×B3))| []=>[]|p::l=>caO P p::caM P l
def ex1(r:List (Nat×B3))(q:Nat×B3):Nat×B3:=match fnd q.1 (D9 q.2) r with|some x=>(q.1,x)|none=>(q.1+1,q.2)
def exM(P:Program):List (Nat×B3)->List (Nat×B3)->List (List (Nat×B3))| [],_=>[]|p::l,r=>(caO P p).map (ex1 r)::exM P l (p::r)
theorem AGC{α:Type}{f:α->α}:∀{l:List α},l=l.map f->∀x∈l,x=f x
 |a::l,h,x,j=>by
  injection h with q y;rcases Ak.1 j with rfl|j
  .exact q
  .exact AGC y x j
theorem Mt.s:∀{l r:List (Nat×B3)},(∀p∈r,Mt A P p.1 p.2)->okM P l=true->caM P l=exM P l r->∀p∈l.reverseAux r,Mt A P p.1 p.2
 | [],_,h,_,_=>h|p::l,r,h,G,J=>by
  unfold okM at G;unfold caM exM at J;rw[AF]at G;obtain⟨y,L⟩:=G;injection J with j B;refine Mt.s (l:=l) (r:=p::r) (fun q H=>?_) L B;rcases Ak.1 H with rfl|H
  .unfold okO at y;unfold caO at j;cases E:P.funcs[q.1]? with
   |none=>simp[E]at y|some fn=>
    simp only[E]at y j;refine Mt.by E y rfl fun t O=>?_
    have e:=AGC j t O;unfold ex1 at e;cases I:fnd t.1 (D9 t.2) r with
    |none=>
     rw[I]at e;have:=congrArg Prod.fst e;simp at this
    |some x=>
     rw[I]at e;rw[e];exact h _ (pE I)
  .exact h q H
def lX(l:List (Nat×GF)):List (Nat×B3):=l.map fun p=>(p.1,p.2.x)
end
end Lv
