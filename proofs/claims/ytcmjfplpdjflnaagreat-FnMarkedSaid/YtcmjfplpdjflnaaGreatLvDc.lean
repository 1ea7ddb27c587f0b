/- The light machine is right about the program's code. -/
import Derived.Test.YtcmjfplpdjflnaaGreatLvCc
import Derived.LoopN
import Derived.Scope
import Derived.OrdersHeld
set_option linter.unusedVariables false
set_option linter.unusedSimpArgs false
set_option linter.unusedSectionVars false
open Array renaming empty_append->JM,getElem?_eq_some_iff->A1,toList_inj->B2
open Bool renaming and_eq_true->AF,false_eq_true->BM,not_eq_true'->BG,or_eq_false_iff->Eu,or_eq_true->Cj
open List renaming all_eq_true->DI,contains_iff_mem->Ea,drop_drop->DG,getElem?_append_left->BD,getElem?_append_right->A7,getElem?_cons_zero->AM,getElem?_drop->Bq,getElem?_eq_some_iff->AP,getElem?_map->A2,getElem?_of_mem->Bh,getElem?_tail->JO,length_append->AK,length_map->An,mem_append->CO,mem_cons->Ag,mem_map->D2,mem_of_getElem?->Ap,mem_singleton->EM
open Nat renaming add_comm->Mp,add_zero->C3,le_refl->Ad,lt_of_lt_of_le->BR,zero_add->Au
open Option renaming isSome_iff_exists->Bj,map_eq_some_iff->AO
open Option.some renaming injEq->AD
open Prod.mk renaming injEq->A0
open Go.Region renaming binds->D4,ready->Bc
open Go.Result renaming andThen->Ao
open Go.Sem renaming run_bind->Ak,run_pure->Az
namespace Lv
open Go
def xv(w:World)(R:Blk):V->Value->Prop|.v .one [x],u=>View w R x u|.p cs,u=>Uy w R cs u|_,_=>False
def KF(w:World)(R:Blk)(cs:List T)(us:List Value):Prop:=us.length=cs.length/\∀(c:Nat) x,cs[c]?=some x->∃z,us[c]?=some z/\View w R x z
def xx(w:World)(D:Nat->Blk)(cs:List T)(us:List Value):Prop:=us.length=cs.length/\∀(c:Nat) x,cs[c]?=some x->∃z,us[c]?=some z/\Own w x z (D c)
def Z8(A:Nat->Nat->List Md->Prop)(P:Program)(w:World)(R:Blk)(G:Nat->Blk)(us:List Value)(md:Md)(V:V)(u:Value):Prop:=
 match md,V with
 |.v,.v sh cs=>u=mkV sh us/\KF w R cs us/\∀c b,¬G c b|.v,.f xf caps=>(∃n cv,u=.func (.func n) #[] cv/\Mt A P n xf/\cv.size=caps.length/\∀(i:Nat) V c,caps[i]?=some V->cv[i]?=some c->xv w R V c)/\∀c b,¬G c b|.p,.p cs=>Uy w R cs u/\∀c b,¬G c b|.b,.b cs=>∃blk E,u=.pointer (some ⟨blk,0,none⟩)/\w.heap[blk]?=some (.cells us.toArray E (0,0))/\KF w R cs us/\∀c b,G c b↔c=0/\b=blk|.o,.o sh cs=>u=mkV sh us/\xx w G cs us/\∀c b,G c b->c<cs.length|.m,.m sh cs=>u=mkV sh us/\xx w G cs us/\∀c b,G c b->c<cs.length|_,_=>False
structure MW(A:Nat->Nat->List Md->Prop)(P:Program)(w:World)(R:Nat->Blk)(G:Nat->Nat->Blk)(U:Nat->List Value)(ms:List Md)(vs:List V)(us:List Value):Prop where
 Ka:vs.length=ms.length
 lC:us.length=ms.length
 arg:∀(i:Nat) md V u,ms[i]?=some md->vs[i]?=some V->us[i]?=some u->Z8 A P w (R i) (G i) (U i) md V u
 rlt:∀i b,R i b->b<w.heap.size
 rg:∀i j c b,R i b->¬G j c b
 gg:∀i c j d b,G i c b->(i≠j\/c≠d)->¬G j d b
 out:∀i c b,G i c b->i<ms.length
def Oy(w':World)(R:Nat->Blk)(Z:Blk)(D:Nat->Nat->Blk)(U:Nat->List Value)(us:List Value):Nat->List Md->List (List T)->Prop|_,[],outs=>outs=[]|i,.b::ms,outs=>∃o os,outs=o::os/\(∃blk us' E,us[i]?=some (.pointer (some ⟨blk,0,none⟩))/\w'.heap[blk]?=some (.cells us'.toArray E (0,0))/\us'.length=(U i).length/\KF w' (fun b=>R i b\/Z b) o us')/\Oy w' R Z D U us (i+1) ms os|i,.m::ms,outs=>∃o os,outs=o::os/\xx w' (D (i+1)) o (U i)/\Oy w' R Z D U us (i+1) ms os|i,_::ms,outs=>Oy w' R Z D U us (i+1) ms outs
def nc(w:World)(ms:List Md)(G:Nat->Nat->Blk)(b:Nat):Prop:=w.heap.size<=b\/∃j d md,ms[j]?=some md/\md.E2=true/\G j d b
def AV2(N:Blk)(w':World)(R:Nat->Blk)(Z:Blk)(D:Nat->Nat->Blk)(sh:Sh)(cs:List T)(v:Value):Prop:=
 match sh with
 |.ptr k=>∃blk us E,v=.pointer (some ⟨blk,0,none⟩)/\w'.heap[blk]?=some (.cells us.toArray E (0,0))/\KF w' (fun b=>R k b\/Z b) cs us/\N blk/\¬Z blk/\∀p c,¬D p c blk|.vw k=>∃x,cs=[x]/\View w' (fun b=>R k b\/Z b) x v|sh=>∃us,v=mkV sh us/\xx w' (D 0) cs us
structure nA(w w':World)(R:Nat->Blk)(G:Nat->Nat->Blk)(U:Nat->List Value)(ms:List Md)(us:List Value)(sh:Sh)(cs:List T)(outs:List (List T))(v:Value)(Z:Blk)(D:Nat->Nat->Blk):Prop where
 still:Still w w'
 frame:∀b,b<w.heap.size->(∀i c,¬G i c b)->w'.heap[b]?=w.heap[b]?
 z:∀b,Z b->nc w ms G b/\b<w'.heap.size
 res:AV2 (nc w ms G) w' R Z D sh cs v
 outs:Oy w' R Z D U us 0 ms outs
 dd:∀p c q d b,D p c b->(p≠q\/c≠d)->¬D q d b
 dz:∀p c b,D p c b->¬Z b
 df:∀p c b,D p c b->nc w ms G b
def Ct(A:Nat->Nat->List Md->Prop)(P:Program):Rel:=fun f vs sh cs outs=>
 ∀n,Mt A P n f->∀w R G U us,MW A P w R G U (Ef f) vs us ->
  Calls P n us.toArray w fun e w'=>∃v Z D,e=.returned v/\nA w w' R G U (Ef f) us sh cs outs v Z D
def R4(ms:List Md)(es:List Ent)(i:Nat):Nat:=(HQ (ms.take i) (es.take i)).length
theorem T3{ms:List Md}{es:List Ent}:R4 ms es 0=0:=by simp[R4,HQ]
theorem QF{md:Md}{ms:List Md}{e:Ent}{es:List Ent}{i:Nat}:R4 (md::ms) (e::es) (i+1)=(if md.E2=true then e.cs.length else 0)+R4 ms es i:=by
 simp only[R4,List.take_succ_cons,HQ,AK];split<;>simp
theorem UE:∀{ms:List Md} {es:List Ent} {i:Nat} {md:Md} {e:Ent} {c:Nat},ms[i]?=some md->es[i]?=some e->md.E2=true->c<e.cs.length->(HQ ms es)[R4 ms es i+c]?=e.cs[c]?
 | [],_,_,_,_,_,h,_,_,_=>by simp at h|_::_,[],_,_,_,_,_,h,_,_=>by simp at h|j::ms,G::es,0,md,e,c,q,y,B,E=>by
  grind[List.getElem?_cons_zero,Option.some.injEq,T3,HQ,List.getElem?_append_left]
 |j::ms,G::es,i+1,md,e,c,q,y,B,E=>by
  have H:=UE (ms:=ms) (es:=es) (i:=i) (c:=c) (by simpa using q) (by simpa using y) B E
  grind[QF,HQ,List.getElem?_append_right]
theorem UF:∀{ms:List Md} {es:List Ent} {k:Nat} {l:AT},(HQ ms es)[k]?=some l->∃i md e c,ms[i]?=some md/\es[i]?=some e/\md.E2=true/\c<e.cs.length/\k=R4 ms es i+c/\e.cs[c]?=some l
 | [],_,_,_,h=>by simp[HQ]at h|_::_,[],_,_,h=>by simp[HQ]at h|H::ms,I::es,k,l,h=>by
  simp only[HQ]at h;split at h
  .rename_i j;by_cases J:k<I.cs.length
   .rw[BD J]at h;exact⟨0,H,I,k,rfl,rfl,j,J,by simp[T3],h⟩
   .rw[A7 (by omega)]at h;obtain⟨i,md,e,c,q,y,B,E,L,G⟩:=UF h;exact⟨i+1,md,e,c,by simpa using q,by simpa using y,B,E,by rw[QF,AX j];omega,G⟩
  .rename_i j;simp only[List.nil_append]at h;obtain⟨i,md,e,c,q,y,B,E,L,G⟩:=UF h;exact⟨i+1,md,e,c,by simpa using q,by simpa using y,B,E,by rw[QF,AU j];omega,G⟩
def na(S:St)(md:Md)(e:Ent)(cs:List T)(V:V):Prop:=
 match md with
 |.o=>V=.o e.sh (cs.take e.cs.length)|.m=>V=.m e.sh (cs.take e.cs.length)/\e.cs.all RF=true/\GJ e.sh e.cs.length=true|md=>SB S md e=some V
theorem ACA{S:St}:∀{ms:List Md} {es:List Ent} {cs:List T} {vs:List V},I8 S ms es cs=some vs->vs.length=ms.length/\es.length=ms.length/\∀(i:Nat) md e,ms[i]?=some md->es[i]?=some e->∃V,vs[i]?=some V /\
 na S md e (cs.drop (R4 ms es i)) V
 | [],[],_,vs,h=>by simp only[I8,AD]at h;subst h;simp| [],_::_,_,_,h=>by simp[I8]at h|_::_,[],_,_,h=>by simp[I8]at h|j::ms,B::es,cs,vs,h=>by
  have fin:∀(V0:V) (c:List V) (q:List T),vs=V0::c->I8 S ms es q=some c->(∀k,(q.drop k)=cs.drop ((if j.E2=true then B.cs.length else 0)+k)) ->
   na S j B cs V0 ->
   vs.length=(j::ms).length/\(B::es).length=(j::ms).length/\∀(i:Nat) md e,(j::ms)[i]?=some md->(B::es)[i]?=some e->∃V,vs[i]?=some V /\
    na S md e (cs.drop (R4 (j::ms) (B::es) i)) V:=by
   intro V0 c q J I hdrop Y;subst J;obtain⟨G,L,O⟩:=ACA I;refine⟨by simp[G],by simp[L],?_⟩;intro i md e y H;cases i with
   |zero=>
    simp only[AM,AD]at y H;subst y H;refine⟨V0,rfl,?_⟩;rw[T3,List.drop_zero];exact Y
   |succ i=>
    obtain⟨V,hV,hV2⟩:=O i md e (by simpa using y) (by simpa using H);refine⟨V,by simpa using hV,?_⟩;rw[QF,<-hdrop];exact hV2
  simp only[I8]at h;cases j with
  |o=>
   simp only at h;split at h
   .rename_i c E;exact fin _ c _ (Option.some.inj h).symm E (fun k=>by simp[Md.E2,DG,Mp]) rfl
   .cases h
  |m=>
   simp only at h;split at h
   .rename_i X;split at h
    .rename_i c E;exact fin _ c _ (Option.some.inj h).symm E (fun k=>by simp[Md.E2,DG,Mp]) ⟨rfl,X⟩
    .cases h
   .cases h
  |_=>
   simp only at h;split at h
   .rename_i v c G E;exact fin _ c _ (Option.some.inj h).symm E (fun k=>by simp[Md.E2]) G
   .cases h
theorem Yf:∀{ms:List Md} {es prev:List Ent},Pd prev ms es=false->es.length=ms.length->(∀(i:Nat) md e,ms[i]?=some md->es[i]?=some e->md.writes=true->(∀p∈prev,shares e p=false)/\∀(j:Nat) y,es[j]?=some y->i≠j->shares e y=false)
 | [],_,_,_,_,i,md,e,h,_,_=>by simp at h|_::_,[],_,_,h,_,_,_,_,_,_=>by simp at h|Z::ms,e0::es,prev,E,q,i,md,e,B,I,O=>by
  simp only[Pd,Eu,Bool.and_eq_false_iff]at E;obtain⟨h1,H⟩:=E;have X:=Yf H (by simpa using q);cases i with
  |zero=>
   grind[List.getElem?_cons_zero,Option.some.injEq,List.any_eq_false,List.mem_of_getElem?]
  |succ i=>
   obtain⟨G,Y⟩:=X i md e (by simpa using B) (by simpa using I) O;refine⟨fun p L=>G p (by simp[L]),?_⟩;intro j y c J;cases j with
   |zero=>
    simp only[AM,AD]at c;subst c;exact G _ (by simp)
   |succ j=>exact Y j y (by simpa using c) (by omega)
theorem HL{e c:Ent}(h:shares e c=false){l l':AT}(q:l∈e.cs)(j:l'∈c.cs):(∀r,l.Bz=some r->l'.Bz≠some r)/\(∀id∈names l,Fp id l'=false)/\∀id∈names l',Fp id l=false:=by
 grind[shares,List.any_eq_false,TR,Bool.or_eq_false_iff]
section
variable{F:Fix}{S S' S1 S2:St}{g g' g1:Gh}{a a':Act}{w w':World}
def bxL(F:Fix)(S:St)(g:Gh)(id b:Nat):Prop:=(get S.bx id).isSome/\(b=g.β id\/(∃c,CG S (.cell id c)/\g.fp (.cell id c) b)\/F.K b)
def rdL(F:Fix)(S:St)(g:Gh):AT->Blk|.vw (.old k) _ _|.vp (.old k) _=>F.R k|.al r _|.ep r _ _|.vw (.own r _) _ _|.vp (.own r _) _=>fun b=>CG S r/\g.fp r b|.bp id _=>bxL F S g id|.fn f caps=>fun b=>F.K b\/∃id∈names (.fn f caps),bxL F S g id b|_=>fun _=>False
theorem rB{l:AT}{b:Nat}(h:rdL F S g l b):F.K b\/(∃r,l.Bz=some r/\CG S r/\g.fp r b)\/∃id∈names l,(get S.bx id).isSome/\(b=g.β id\/∃c,CG S (.cell id c)/\g.fp (.cell id c) b):=by
 have bx:∀id,id∈names l->bxL F S g id b->F.K b\/(∃r,l.Bz=some r/\CG S r/\g.fp r b)\/∃id∈names l,(get S.bx id).isSome/\(b=g.β id\/∃c,CG S (.cell id c)/\g.fp (.cell id c) b):=by
  rintro id e ⟨q,j|j|j⟩
  .grind
  .grind
  .exact .inl j
 match l,h with
 |.vw (.old k) _ _,h=>exact .inl (F.RK k b h)|.vp (.old k) _,h=>exact .inl (F.RK k b h)|.al r _,h=>exact .inr (.inl ⟨r,rfl,h⟩)|.ep r _ _,h=>exact .inr (.inl ⟨r,rfl,h⟩)|.vw (.own r _) _ _,h=>exact .inr (.inl ⟨r,rfl,h⟩)|.vp (.own r _) _,h=>exact .inr (.inl ⟨r,rfl,h⟩)|.bp id _,h=>exact bx id (by simp[names]) h|.fn f caps,h=>
  rcases h with h|⟨id,e,h⟩
  .exact .inl h
  .exact bx id e h
theorem AXa(h:Inv F S g a w){l:AT}{b:Nat}(B:rdL F S g l b):b<w.heap.size:=by
 have fl:∀r,CG S r->g.fp r b->b<w.heap.size:=by
  rintro r ⟨x,I⟩ j;obtain⟨v,_,y⟩:=h.Cq r _ I;exact Own.lt y b j
 rcases rB B with G|⟨r,_,e,j⟩|⟨id,_,H,rfl|⟨c,e,j⟩⟩
 .exact BR (h.rlt b G) h.size
 .exact fl r e j
 .obtain⟨ls,q⟩:=Bj.1 H;obtain⟨⟨E,hE⟩,_⟩:=h.bxs id ls q;exact(A1.1 hE).1
 .exact fl _ e j
theorem View.up{B B':Blk}{x:T}{v:Value}(h:View w B x v)(c:∀b,B b->B' b):View w B' x v:=h.mono c fun _ _=>rfl
theorem rX(h:Inv F S g a w){fp:Blk}{l:AT}{v:Value}{x:T}(j:Bt F S g w fp l v)(c:S.HR l=some x)(L:∀y,l≠.ow y):View w (rdL F S g l) x v:=by
 match l,j with
 |.t y,j=>simp only[St.HR,AD]at c;subst c;exact .sc j|.al r sub,⟨y,u,E,I,J⟩=>
  simp only[St.HR,E,AD]at c;subst c;obtain⟨O,B,q⟩:=h.Cq r _ E;rw[I]at B;cases B;obtain⟨S0,hS0,hO⟩:=RD q J;exact hO.view.up fun b H=>⟨⟨_,E⟩,hS0 b H⟩
 |.vw (.own r p) e xs,⟨G,⟨S0,hS0,hO⟩,_⟩=>
  simp only[St.HR,AD]at c;subst c;exact hO.view.up fun b H=>⟨G,hS0 b H⟩
 |.vw (.old k) e xs,j=>
  simp only[St.HR,AD]at c;subst c;exact j
 |.ow y,_=>exact(L y rfl).elim|.und,_=>simp[St.HR]at c|.ep _ _ _,_=>simp[St.HR]at c|.vp _ _,_=>simp[St.HR]at c|.bp _ _,_=>simp[St.HR]at c|.fn _ _,_=>simp[St.HR]at c
theorem mu{ls:List AT}{cs:List T}(h:S.HN ls=some cs):cs.length=ls.length/\∀(c:Nat) x,cs[c]?=some x->∃l,ls[c]?=some l/\S.HR l=some x:=by
 induction ls generalizing cs with
 |nil=>simp only[St.HN,AD]at h;subst h;simp|cons l ls e=>
  grind[St.HN,List.getElem?_cons_zero,Option.some.injEq]
theorem Nl{k:Nat}{ls:List AT}{cs:List T}(h:Fl k ls=some cs):cs.length=ls.length/\(∀(c:Nat) x,cs[c]?=some x->∃l,ls[c]?=some l/\PY k l=some x)/\∀l∈ls,∃x,PY k l=some x:=by
 induction ls generalizing cs with
 |nil=>simp only[Fl,AD]at h;subst h;simp|cons l ls e=>
  grind[Fl,List.getElem?_cons_zero,Option.some.injEq]
theorem ni{k:Nat}{l:AT}{x:T}(h:PY k l=some x):l=.t x\/∃e xs,l=.vw (.old k) e xs/\x=.sl e xs:=by
 unfold PY at h
 grind
theorem Yc{k:Nat}{l:AT}{x:T}{fp:Blk}{v:Value}(h:PY k l=some x)(c:Bt F S g w fp l v):View w (F.R k) x v:=by
 rcases ni h with rfl|⟨e,xs,rfl,rfl⟩
 .exact .sc c
 .exact c
theorem AMG{ls:List AT}(h:On ls=true):∀l∈ls,l.Bz=none:=by
 induction ls with
 |nil=>simp|cons l ls c=>
  grind[On,Option.isNone_iff_eq_none]
theorem nj(h:Inv F S g a w){id off:Nat}{ls:List AT}{cs:List T}(B:get S.bx id=some ls)(Y:On ls=true)(L:S.HN (ls.drop off)=some cs) :
 Uy w (bxL F S g id) cs (.pointer (some ⟨g.β id,off,none⟩)):=by
 obtain⟨h1,X⟩:=mu L;obtain⟨⟨E,hE⟩,O⟩:=h.bxs id ls B;refine⟨⟨g.β id,off,none⟩,fun j=>(g.bv id).getD (off+j) undef,rfl,rfl,?_⟩;intro j x Z;obtain⟨l,G,c⟩:=X j x Z;rw[Bq]at G;obtain⟨v,L,q⟩:=h.Cq (.cell id (off+j)) l (by simp[St.at,B,G]);have J:(g.bv id)[off+j]?=some v:=L;have I:(g.bv id).getD (off+j) undef=v:=by simp[List.getD,J]
 have hsome:(get S.bx id).isSome:=by simp[B]
 refine⟨⟨hsome,.inl rfl⟩,?_,?_⟩
 .grind[World.cell?]
 .show View w (bxL F S g id) x ((g.bv id).getD (off+j) undef);rw[I];have hroot:=AMG Y l (Ap G)
  match l,q,c with
  |.t y,q,c=>simp only[St.HR,AD]at c;subst c;exact .sc q|.ow y,q,c=>
   simp only[St.HR,AD]at c;subst c;have hO:Own w y v (g.fp (.cell id (off+j))):=q;exact hO.view.up fun b H=>⟨hsome,.inr (.inl ⟨off+j,⟨y,by simp[St.at,B,G]⟩,H⟩)⟩
  |.vw (.old k) e xs,q,c=>
   simp only[St.HR,AD]at c;subst c;have hV:View w (F.R k) (.sl e xs) v:=q;exact hV.up fun b H=>⟨hsome,.inr (.inr (F.RK k b H))⟩
  |.vw (.own r _) _ _,_,_=>cases hroot
  |.al r _,_,_=>cases hroot
  |.und,_,c=>simp[St.HR]at c|.ep _ _ _,_,_=>cases hroot
  |.vp _ _,_,c=>simp[St.HR]at c|.bp _ _,_,c=>simp[St.HR]at c|.fn _ _,_,c=>simp[St.HR]at c
theorem Uy.up{B B':Blk}{cs:List T}{v:Value}(h:Uy w B cs v)(e:∀b,B b->B' b):Uy w B' cs v:=by
 obtain⟨ad,c,q,y,E⟩:=h;exact⟨ad,c,q,y,fun j x G=>let ⟨H,I,J⟩:=E j x G;⟨e _ H,I,J.up e⟩⟩
theorem AJw.AaF{B:Blk}{cs:List T}{v:Value}(h:AJw w B cs v):Uy w B cs v:=by
 obtain⟨ad,c,f,e,q,y⟩:=h;exact⟨ad,c,e,q,fun j x E=>let ⟨G,H,I,J⟩:=y j x E;⟨G,H,J.view.up I⟩⟩
theorem AJ4{ls:List AT}{cs:List V}(h:dR S ls=some cs):cs.length=ls.length/\∀(c:Nat) x,cs[c]?=some x->∃l,ls[c]?=some l/\AJ3 S l=some x:=by
 induction ls generalizing cs with
 |nil=>simp only[dR,AD]at h;subst h;simp|cons l ls e=>
  grind[dR,List.getElem?_cons_zero,Option.some.injEq]
theorem AWq(h:Inv F S g a w){f:CI}{caps:List AT}{l:AT}{V:V}{c:Value}(G:l∈caps)(j:AJ3 S l=some V)(q:FJ F g w l c):xv w (rdL F S g (.fn f caps)) V c:=by
 unfold AJ3 at j;split at j
 .cases j;exact .sc q
 .rename_i k e xs;cases j;have hV:View w (F.R k) (.sl e xs) c:=q;exact hV.up fun b y=>.inl (F.RK k b y)
 .rename_i id off;split at j
  .rename_i ls E;split at j
   .rename_i H;rw[AO]at j;obtain⟨cs,B,rfl⟩:=j;have I:c=_:=q;subst I;refine(nj h E H B).up fun b y=>.inr ⟨id,?_,y⟩
    simp only[names,List.mem_filterMap];exact⟨_,G,rfl⟩
   .cases j
  .cases j
 .rename_i k cs;cases j;have hV:Uy w (F.R k) cs c:=q;exact hV.up fun b y=>.inl (F.RK k b y)
 .cases j
def rr(F:Fix)(S:St)(g:Gh)(md:Md)(e:Ent)(b:Nat):Prop:=
 match md with
 |.v|.p=>∃l∈e.cs,rdL F S g l b|.b=>match e with
  |⟨.one,[.bp id 0]⟩=>match get S.bx id with|some ls=>F.R (DW ls) b|none=>False
  |_=>False
 |_=>False
theorem Xi{e:Ent}{l:AT}{v:Value}(h:Rd F S g w e v)(E:e=⟨.one,[l]⟩):Bt F S g w (fun _=>False) l v:=by
 subst E;obtain⟨vs,y,G,H,B⟩:=h;obtain⟨u,q,j⟩:=B 0 l rfl;cases vs with
 |nil=>simp at q|cons z I=>
  simp only[AM,AD]at q;subst q;have c:v=z:=y;rw[c];exact j
theorem AUO(h:Inv F S g a w){md:Md}{e:Ent}{V:V}{u:Value}{us:List Value}{G:Nat->Blk}(j:SB S md e=some V)(hr:Rd F S g w e u)
 (hus:md≠.b->u=mkV e.sh us/\us.length=e.cs.length/\(∀x,AT.ow x∉e.cs)/\∀(c:Nat) (l:AT),e.cs[c]?=some l->∃u,us[c]?=some u/\Bt F S g w (fun _=>False) l u)
 (hub:∀id,md=.b->e=⟨.one,[.bp id 0]⟩->us=g.bv id) (hG:md≠.b->∀c b,¬G c b) (hGb:∀id,md=.b->e=⟨.one,[.bp id 0]⟩->∀c b,G c b↔c=0/\b=g.β id) :
 Z8 F.A F.P w (rr F S g md e) G us md V u:=by
 unfold SB at j;split at j
 .split at j
  .rename_i f caps;split at j
   .rename_i cs H;cases j;obtain⟨n,cv,k1,k2,k3,k4⟩:=Xi hr rfl;obtain⟨q1,q2⟩:=AJ4 H;refine⟨⟨n,cv,k1,k2,by rw[k3,q1],?_⟩,hG (by simp)⟩;intro i V c hV O;obtain⟨l,L,X⟩:=q2 i V hV;have:=AWq h (f:=f) (Ap L) X (k4 i l c L O);have up:∀{B B':Blk},xv w B V c->(∀b,B b->B' b)->xv w B' V c:=by
     intro B B' O q;unfold xv at O ⊢;split at O
     .exact O.up q
     .exact O.up q
     .exact O.elim
    exact up this fun b q=>⟨.fn f caps,by simp,q⟩
   .cases j
  .split at j
   .rename_i cs H;cases j;obtain⟨k1,k2,k3,k4⟩:=hus (by simp);obtain⟨q1,q2⟩:=mu H;refine⟨k1,⟨by rw[k2,q1],?_⟩,hG (by simp)⟩;intro c x hx;obtain⟨l,L,hvt⟩:=q2 c x hx;obtain⟨z,hz,I⟩:=k4 c l L;exact⟨z,hz,(rX h I hvt (by rintro y rfl;exact k3 y (Ap L))).up fun b q=>⟨l,Ap L,q⟩⟩
   .cases j
 .split at j
  .rename_i id off;split at j
   .rename_i ls J;split at j
    .rename_i hs;split at j
     .rename_i cs H;cases j;have hu:u=_:=Xi hr rfl;subst hu;exact⟨(nj h J hs H).up fun b q=>⟨.bp id off,by simp,q⟩,hG (by simp)⟩
     .cases j
    .cases j
   .cases j
  .rename_i s cs;cases j;have I:=Xi hr rfl;refine⟨?_,hG (by simp)⟩;cases s with
   |own r p=>
    obtain⟨hal,hO⟩:=I;exact hO.AaF.up fun b q=>⟨.vp (.own r p) cs,by simp,hal,q⟩
   |old k=>
    have hV:Uy w (F.R k) cs u:=I;exact hV.up fun b q=>⟨.vp (.old k) cs,by simp,q⟩
  .cases j
 .split at j
  .rename_i id;split at j
   .rename_i ls J;split at j
    .rename_i cs H;cases j;have hu:u=_:=Xi hr rfl;subst hu;obtain⟨⟨E,hE⟩,Y⟩:=h.bxs id ls J;have Z:=hub id rfl rfl;subst Z;obtain⟨q1,q2,_⟩:=Nl H;refine⟨g.β id,E,rfl,hE,⟨by rw[Y,q1],?_⟩,hGb id rfl rfl⟩;intro c x hx;obtain⟨l,L,q⟩:=q2 c x hx;obtain⟨v,j,I⟩:=h.Cq (.cell id c) l (by simp[St.at,J,L]);refine⟨v,j,?_⟩;exact(Yc q I).up fun b q=>by simp only[rr,J];exact q
    .cases j
   .cases j
  .cases j
 .cases j
theorem cg{r r':CD}{x:T}(c:S.at r=some (.ow x))(h:S.at r'=some (.t .top)):(S.out r).at r'=some (.t .top):=by
 rw[St.out,Ha,Ei c];split<;>simp[h,LZ,AT.Bz]
theorem Xj{r:CD}{x:T}(c:S.at r=some (.ow x)):(S.out r).at r=some (.t .top):=by
 rw[St.out,Ha,Ei c];simp[LZ,AT.Bz]
theorem TK:∀{ls:List AT} {S S':St} {cs:List T},Di S ls=some (S',cs)->(∀r,S.at r=some (.t .top)->S'.at r=some (.t .top))/\∀r sub,AT.al r sub∈ls->S'.at r=some (.t .top)
 | [],S,S',cs,h=>by simp only[Di,AD,A0]at h;obtain⟨rfl,rfl⟩:=h;exact⟨fun _ h=>h,by simp⟩
 |l::ls,S,S',cs,h=>by
  cases l with
  |t x=>
   simp only[Di]at h;split at h
   .cases h
   .split at h
    .rename_i S1 G c;simp only[AD,A0]at h;obtain⟨rfl,rfl⟩:=h;obtain⟨E,H⟩:=TK c;exact⟨E,fun r sub B=>H r sub (by simpa using B)⟩
    .cases h
  |al r sub=>
   simp only[Di]at h;split at h
   .rename_i x I;split at h
    .rename_i S1 G c;simp only[AD,A0]at h;obtain⟨rfl,rfl⟩:=h;obtain⟨E,H⟩:=TK c;refine⟨fun r' y=>E r' (cg I y),fun r' sub' B=>?_⟩;rcases Ag.1 B with B|B
     .cases B;exact E r (Xj I)
     .exact H r' sub' B
    .cases h
   .cases h
  |vw s e xs=>
   cases s with
   |old k=>simp[Di]at h|own r p=>
    cases p with
    |none=>
     simp only[Di]at h;split at h
     .rename_i x I;split at h
      .rename_i S1 G c;simp only[AD,A0]at h;obtain⟨rfl,rfl⟩:=h;obtain⟨E,H⟩:=TK c;exact⟨fun r' y=>E r' (cg I y),fun r' sub' B=>H r' sub' (by simpa using B)⟩
      .cases h
     .cases h
    |some q=>
     obtain⟨i,j⟩:=q;simp only[Di]at h;split at h
     .cases h
     .split at h
      .rename_i S1 L;split at h
       .rename_i S2 G c;simp only[AD,A0]at h;obtain⟨rfl,rfl⟩:=h;obtain⟨E,H⟩:=TK c;obtain⟨O,rows,I,rfl⟩:=N8 L;refine⟨fun r' y=>E r' ?_,fun r' sub' B=>H r' sub' (by simpa using B)⟩;rw[Ok I];have J:r'≠r:=by rintro rfl;rw[I]at y;cases y
        simp[J,y,FW]
       .cases h
      .cases h
  |_=>simp[Di]at h
theorem KS:∀{ls:List AT} {S S':St} {cs:List T},Di S ls=some (S',cs)->∀r,S.at r=some (.t .top)->∀l∈ls,l.Bz≠some r
 | [],_,_,_,_=>by simp|l::ls,S,S',cs,h=>by
  intro r E l' c;cases l with
  |t x=>
   simp only[Di]at h;split at h
   .cases h
   .split at h
    .rename_i S1 G y;rcases Ag.1 c with rfl|c
     .simp[AT.Bz]
     .exact KS y r E l' c
    .cases h
  |al r' sub=>
   simp only[Di]at h;split at h
   .rename_i x B;split at h
    .rename_i S1 G y;rcases Ag.1 c with rfl|c
     .intro H;cases H;rw[E]at B;cases B
     .exact KS y r (cg B E) l' c
    .cases h
   .cases h
  |vw s e xs=>
   cases s with
   |old k=>simp[Di]at h|own r' p=>
    cases p with
    |none=>
     simp only[Di]at h;split at h
     .rename_i x B;split at h
      .rename_i S1 G y;rcases Ag.1 c with rfl|c
       .intro H;cases H;rw[E]at B;cases B
       .exact KS y r (cg B E) l' c
      .cases h
     .cases h
    |some q=>
     obtain⟨i,j⟩:=q;simp only[Di]at h;split at h
     .cases h
     .split at h
      .rename_i S1 J;split at h
       .rename_i S2 G y;obtain⟨L,rows,B,rfl⟩:=N8 J;rcases Ag.1 c with rfl|c
        .intro H;cases H;rw[E]at B;cases B
        .refine KS y r ?_ l' c;rw[Ok B];have I:r≠r':=by rintro rfl;rw[B]at E;cases E
         simp[I,E,FW]
       .cases h
      .cases h
  |_=>simp[Di]at h
def AUB(l l':AT):Prop:=∀r,l.Bz=some r->l'.Bz≠some r
theorem QH:∀{ls:List AT} {S S':St} {cs:List T},Di S ls=some (S',cs)->ls.Pairwise AUB
 | [],_,_,_,_=>.nil|l::ls,S,S',cs,h=>by
  cases l with
  |t x=>
   simp only[Di]at h;split at h
   .cases h
   .split at h
    .rename_i S1 B c;exact .cons (fun l' _ r E=>by cases E) (QH c)
    .cases h
  |al r' sub=>
   simp only[Di]at h;split at h
   .rename_i x H;split at h
    .rename_i S1 B c;refine .cons (fun l' y r E=>?_) (QH c);cases E;exact KS c _ (Xj H) l' y
    .cases h
   .cases h
  |vw s e xs=>
   cases s with
   |old k=>simp[Di]at h|own r' p=>
    cases p with
    |none=>
     simp only[Di]at h;split at h
     .rename_i x H;split at h
      .rename_i S1 B c;refine .cons (fun l' y r E=>?_) (QH c);cases E;exact KS c _ (Xj H) l' y
      .cases h
     .cases h
    |some q=>
     obtain⟨i,j⟩:=q;simp only[Di]at h;split at h
     .cases h
     .rename_i G;split at h
      .split at h
       .rename_i S2 B c;refine .cons (fun l' y r E=>?_) (QH c);cases E;exact wa (by simpa using G) l' y
       .cases h
      .cases h
  |_=>simp[Di]at h
theorem QJ:∀{ls:List AT} {S S':St} {cs:List T},Di S ls=some (S',cs)->∀{r:CD} {x:T},(∀l∈ls,l.Bz≠some r)->S.at r=some (.ow x)->S'.at r=some (.ow x)
 | [],S,S',cs,h,r,x,_,H=>by simp only[Di,AD,A0]at h;obtain⟨rfl,rfl⟩:=h;exact H
 |l::ls,S,S',cs,h,r,x,J,H=>by
  have B:∀l∈ls,l.Bz≠some r:=fun l O=>J l (by simp[O])
  cases l with
  |t y=>
   simp only[Di]at h;split at h
   .cases h
   .split at h
    .rename_i S1 G c;simp only[AD,A0]at h;obtain⟨rfl,rfl⟩:=h;exact QJ c B H
    .cases h
  |al r' sub=>
   have E:r≠r':=by rintro rfl;exact J (.al r sub) (by simp) rfl
   simp only[Di]at h;split at h
   .rename_i y I;split at h
    .rename_i S1 G c;simp only[AD,A0]at h;obtain⟨rfl,rfl⟩:=h;exact QJ c B (AFk I E H)
    .cases h
   .cases h
  |vw s e xs=>
   cases s with
   |old k=>simp[Di]at h|own r' p=>
    have E:r≠r':=by rintro rfl;exact J (.vw (.own r p) e xs) (by simp) rfl
    cases p with
    |none=>
     simp only[Di]at h;split at h
     .rename_i y I;split at h
      .rename_i S1 G c;simp only[AD,A0]at h;obtain⟨rfl,rfl⟩:=h;exact QJ c B (AFk I E H)
      .cases h
     .cases h
    |some q=>
     obtain⟨i,j⟩:=q;simp only[Di]at h;split at h
     .cases h
     .split at h
      .rename_i S1 L;split at h
       .rename_i S2 G c;simp only[AD,A0]at h;obtain⟨rfl,rfl⟩:=h;obtain⟨X,rows,I,rfl⟩:=N8 L;exact QJ c B (by rw[Ok I,AU E,H];rfl)
       .cases h
      .cases h
  |_=>simp[Di]at h
theorem QI:∀{ls:List AT} {S S':St} {cs:List T},Di S ls=some (S',cs)->∀{r:CD} {i j e:Nat} {xs:List (List T)},AT.vw (.own r (some (i,j))) e xs∈ls->∃G rows,S'.at r=some (.ow (.sl G rows))
 | [],S,S',cs,h,r,i,j,e,xs,B=>by simp at B|l::ls,S,S',cs,h,r,i,j,e,xs,B=>by
  cases l with
  |t y=>
   simp only[Di]at h;split at h
   .cases h
   .split at h
    .rename_i S1 E c;simp only[AD,A0]at h;obtain⟨rfl,rfl⟩:=h;exact QI c (by simpa using B)
    .cases h
  |al r' sub=>
   simp only[Di]at h;split at h
   .rename_i y J;split at h
    .rename_i S1 E c;simp only[AD,A0]at h;obtain⟨rfl,rfl⟩:=h;exact QI c (by simpa using B)
    .cases h
   .cases h
  |vw s O L=>
   cases s with
   |old k=>simp[Di]at h|own r' p=>
    cases p with
    |none=>
     simp only[Di]at h;split at h
     .rename_i y J;split at h
      .rename_i S1 E c;simp only[AD,A0]at h;obtain⟨rfl,rfl⟩:=h;exact QI c (by simpa using B)
      .cases h
     .cases h
    |some q=>
     obtain⟨X,Y⟩:=q;simp only[Di]at h;split at h
     .cases h
     .rename_i H;split at h
      .rename_i S1 I;split at h
       .rename_i S2 E c;simp only[AD,A0]at h;obtain⟨rfl,rfl⟩:=h;rcases Ag.1 B with B|B
        .cases B;obtain⟨G,rows,J,rfl⟩:=N8 I;exact⟨G,_,QJ c (wa (by simpa using H)) (by rw[Ok J,AX rfl];rfl)⟩
        .exact QI c B
       .cases h
      .cases h
  |_=>simp[Di]at h
theorem rS:∀{ms:List Md} {es:List Ent} {i:Nat} {md:Md} {e:Ent},ms[i]?=some md->es[i]?=some e->md.E2=true->List.Sublist e.cs (HQ ms es)
 | [],_,_,_,_,h,_,_=>by simp at h|_::_,[],_,_,_,_,h,_=>by simp at h|c::ms,B::es,0,md,e,j,q,y=>by
  grind[List.getElem?_cons_zero,Option.some.injEq,HQ,List.sublist_append_left]
 |c::ms,B::es,i+1,md,e,j,q,y=>by
  simp only[HQ];exact(rS (i:=i) (by simpa using j) (by simpa using q) y).trans (List.sublist_append_right _ _)
structure Blank(S S2:St)(ms:List Md)(es:List Ent):Prop where
 tm:S2.tm=S.tm
 pin:S2.pin=S.pin
 bx:∀id ls',get S2.bx id=some ls'->∃ls,get S.bx id=some ls/\ls'.length=ls.length
 ow:∀r x,S2.at r=some (.ow x)↔S.at r=some (.ow x)
 top:∀r,S.at r=some (.t .top)->S2.at r=some (.t .top)
 all:∀(i:Nat) id,ms[i]?=some Md.b->es[i]?=some ⟨.one,[.bp id 0]⟩->∀ls,get S2.bx id=some ls->∀l∈ls,l=.t .top
theorem dP:∀(ms:List Md) (es:List Ent) (S:St),Inv F S g a w->(∀(i:Nat) id,ms[i]?=some Md.b->es[i]?=some ⟨.one,[.bp id 0]⟩->∀c,¬CG S (.cell id c))->Inv F (Ej S ms es) g a w/\Blank S (Ej S ms es) ms es
 | [],es,S,h,_=>by
  have:Ej S [] es=S:=by cases es<;>rfl
  rw[this];exact⟨h,rfl,rfl,fun _ ls hl=>⟨ls,hl,rfl⟩,fun _ _=>Iff.rfl,fun _ h=>h,by intro i id H;simp at H⟩
 |md::ms,[],S,h,_=>by
  exact⟨h,rfl,rfl,fun _ ls hl=>⟨ls,hl,rfl⟩,fun _ _=>Iff.rfl,fun _ h=>h,by intro i id _ H;simp at H⟩
 |md::ms,e::es,S,h,hb=>by
  have hb':∀(i:Nat) id,ms[i]?=some Md.b->es[i]?=some ⟨.one,[.bp id 0]⟩->∀c,¬CG S (.cell id c):=fun i id h1 B=>hb (i+1) id (by simpa using h1) (by simpa using B)
  have pass:(∀id,md=.b->e=⟨.one,[.bp id 0]⟩->get S.bx id=none)->Inv F (Ej S ms es) g a w/\Blank S (Ej S ms es) (md::ms) (e::es):=by
   intro hno;obtain⟨h1,B⟩:=dP ms es S h hb';refine⟨h1,B.tm,B.pin,B.bx,B.ow,B.top,?_⟩;intro i id H G ls y;cases i with
   |zero=>
    simp only[AM,AD]at H G;obtain⟨ls0,h0,_⟩:=B.bx id ls y;rw[hno id H G]at h0;cases h0
   |succ i=>exact B.all i id (by simpa using H) (by simpa using G) ls y
  simp only[Ej];split
  .split
   .rename_i id;split
    .rename_i ls y;have hdead:=hb 0 id rfl rfl
     let S1:St:={ S with bx:=put S.bx id (ls.map fun _=>AT.t .top)}
     have I:∀r,S1.at r=match r with|.cell b c=>if b=id then (ls.map fun _=>AT.t .top)[c]? else S.at (.cell b c)|.tmp s c=>S.at (.tmp s c):=M7
     have X:∀r x,S1.at r=some (.ow x)↔S.at r=some (.ow x):=by
      intro r x;rw[I];cases r with
      |tmp s c=>exact Iff.rfl|cell b c=>
       by_cases E:b=id
       .subst E;simp only[if_true];constructor
        .intro Z;rw[A2,AO]at Z;obtain⟨_,_,Z⟩:=Z;cases Z
        .intro Z;exact absurd ⟨x,Z⟩ (hdead c)
       .simp[E]
     have hI:Inv F S1 g a w:=by
      refine h.weaken (fun s e' he'=>⟨e',he',rfl,rfl⟩) ?_ ?_ rfl
      .intro q ls' j;have:get (put S.bx id (ls.map fun _=>AT.t .top)) q=some ls':=j;rw[Fv]at this;split at this
       .rename_i L;subst L;cases this;exact⟨ls,y,by simp⟩
       .exact⟨ls',this,rfl⟩
      .intro r l' j;have key:∀J x,S.at J=some (.ow x)->S1.at J=some (.ow x):=fun J x Y=>(X J x).2 Y
       rw[I]at j;cases r with
       |tmp s c=>exact .inr ⟨j,fun J x _ Y=>key J x Y⟩|cell b c=>
        by_cases E:b=id
        .subst E;simp only[if_true]at j;rw[A2,AO]at j;obtain⟨l0,h0,rfl⟩:=j;exact .inl ⟨rfl,by simp[St.at,y,h0]⟩
        .simp only[AU E]at j;exact .inr ⟨j,fun J x _ Y=>key J x Y⟩
     obtain⟨h1,B⟩:=dP ms es S1 hI (by
      intro i q H G c hal;obtain⟨x,Y⟩:=hal;exact hb' i q H G c ⟨x,(X _ x).1 Y⟩)
     have htop:∀r,S.at r=some (.t .top)->S1.at r=some (.t .top):=by
      intro r hr;rw[I];cases r with
      |tmp s c=>exact hr|cell b c=>
       by_cases E:b=id
       .subst E;simp only[St.at,y]at hr;simp[hr]
       .simp only[AU E];exact hr
     have hbx:∀q ls',get S1.bx q=some ls'->∃ls,get S.bx q=some ls/\ls'.length=ls.length:=by
      intro q ls' j;have:get (put S.bx id (ls.map fun _=>AT.t .top)) q=some ls':=j;rw[Fv]at this;split at this
      .rename_i L;subst L;cases this;exact⟨ls,y,by simp⟩
      .exact⟨ls',this,rfl⟩
     refine⟨h1,B.tm,B.pin,?_,fun r x=>(B.ow r x).trans (X r x),fun r hr=>B.top r (htop r hr),?_⟩
     .intro q ls' j;obtain⟨l1,k1,k2⟩:=B.bx q ls' j;obtain⟨l0,k3,k4⟩:=hbx q l1 k1;exact⟨l0,k3,k2.trans k4⟩
     .intro i q H G ls' j l hl;cases i with
      |zero=>
       simp only[AM,AD]at G;cases G;obtain⟨l1,k1,k2⟩:=B.bx id ls' j;have hg:get S1.bx id=some (ls.map fun _=>AT.t .top):=by
        show get (put S.bx id (ls.map fun _=>AT.t .top)) id=_;rw[Fv,AX rfl]
       rw[hg]at k1;cases k1;obtain⟨c,hc⟩:=Bh hl;have hlt:c<ls'.length:=(AP.1 hc).1;have h3:S1.at (.cell id c)=some (.t .top):=by
        rw[I];simp only[if_true];have hc0:c<ls.length:=by rw[k2]at hlt;simpa using hlt
        simp[hc0]
       have h4:=B.top _ h3;have hl2:get (Ej S1 ms es).bx id=some ls':=j;simp only[St.at,hl2,hc,AD]at h4;exact h4
      |succ i=>exact B.all i q (by simpa using H) (by simpa using G) ls' j l hl
    .rename_i y;exact pass fun q _ G=>by cases G;exact y
   .rename_i O;exact pass fun q _ G=>absurd G (O q)
  .rename_i O;exact pass fun q H _=>absurd H O
def AZj(F:Fix)(S S2:St)(g:Gh)(w:World)(R:Nat->Blk)(G:Nat->Nat->Blk)(U:Nat->List Value)(us:List Value)(i:Nat)(md:Md)(e:Ent):Prop:=
 (match md with
 |.b=>∃id ls,e=⟨.one,[.bp id 0]⟩/\get S.bx id=some ls/\R i=F.R (DW ls)/\U i=g.bv id/\(∀c b,G i c b↔c=0/\b=g.β id)/\us[i]?=some (.pointer (some ⟨g.β id,0,none⟩)) /\
  (∀ls,get S2.bx id=some ls->∀l∈ls,l=.t .top)
 |.m=>(U i).length=e.cs.length/\e.cs.Pairwise AUB/\∀(c:Nat) l,e.cs[c]?=some l->RF l=true/\∃z,(U i)[c]?=some z/\Bt F S g w (fun _=>False) l z/\(∀r sub,l=.al r sub->S2.at r=some (.t .top)) /\
  ∀r p e xs,l=.vw (.own r (some p)) e xs->CG S2 r
 |_=>True)/\(md≠.p->∀lab,kv S e=some lab->∀b,R i b->F.R lab b)
def nW(S:St)(g:Gh)(ms:List Md)(es:List Ent)(b:Nat):Prop:=
 ∃(i:Nat) (md:Md) (e:Ent),ms[i]?=some md/\es[i]?=some e/\md.writes=true/\((∃id,e=⟨.one,[.bp id 0]⟩/\(get S.bx id).isSome/\b=g.β id)\/∃l r,l∈e.cs/\l.Bz=some r/\CG S r/\g.fp r b)
theorem AJl:∀(es:List Ent) (us:List Value),us.length=es.length->(∀(i:Nat) e,es[i]?=some e->∃u,us[i]?=some u/\Rd F S g w e u) ->
 ∃Us:List (List Value),Us.length=es.length/\∀(i:Nat) e,es[i]?=some e->∃u xs,us[i]?=some u/\Us[i]?=some xs/\u=mkV e.sh xs/\xs.length=e.cs.length/\(∀x,AT.ow x∉e.cs) /\
  ∀(c:Nat) (l:AT),e.cs[c]?=some l->∃z,xs[c]?=some z/\Bt F S g w (fun _=>False) l z
 | [],us,q,_=>⟨[],rfl,by simp⟩|e::es,[],q,_=>by simp at q|e::es,u::us,q,h=>by
  obtain⟨Us,E,G⟩:=AJl es us (by simpa using q) (fun i e H=>by simpa using h (i+1) e (by simpa using H));obtain⟨X,j,vs,I,J,L,O⟩:=h 0 e rfl;simp only[AM,AD]at j;subst j;refine⟨vs::Us,by simp[E],?_⟩;intro i B y;cases i with
  |zero=>
   grind[List.getElem?_cons_zero,Option.some.injEq]
  |succ i=>simpa using G i B (by simpa using y)
theorem AC9:∀(ms:List Md) (es:List Ent) (Us:List (List Value)),es.length=ms.length->Us.length=es.length->(∀(i:Nat) e xs,es[i]?=some e->Us[i]?=some xs->xs.length=e.cs.length) ->
 ∃lv:List Value,lv.length=(HQ ms es).length/\∀(i:Nat) md e xs c,ms[i]?=some md->es[i]?=some e->Us[i]?=some xs->md.E2=true->c<e.cs.length->lv[R4 ms es i+c]?=xs[c]?
 | [],_,_,_,_,_=>⟨[],by simp[HQ],by simp⟩|_::_,[],_,h,_,_=>by simp at h|_::_,_::_,[],_,h,_=>by simp at h|md::ms,e::es,xs::Us,J,L,G=>by
  obtain⟨lv,Y,Z⟩:=AC9 ms es Us (by simpa using J) (by simpa using L) (fun i e xs j q=>G (i+1) e xs (by simpa using j) (by simpa using q));have X:=G 0 e xs rfl rfl;refine⟨(if md.E2=true then xs else [])++lv,?_,?_⟩
  .simp only[HQ,AK,Y];split<;>simp[X]
  .intro i B I E c y j q H O;cases i with
   |zero=>
    simp only[AM,AD]at y j q;subst y j q;rw[T3,AX H,Au,BD (by omega)]
   |succ i=>
    have:=Z i B I E c (by simpa using y) (by simpa using j) (by simpa using q) H O;rw[<-this,QF];split
    .rw[A7 (by omega)];congr 1;omega
    .simp
theorem ARU{e:Ent}{lab:Nat}(h:kv S e=some lab)(y:∀id off,e≠⟨.one,[.bp id off]⟩){l:AT}(q:l∈e.cs){b:Nat}(j:rdL F S g l b):F.R lab b:=by
 unfold kv at h;split at h
 .grind
 .split at h
  .rename_i B;cases h;obtain⟨cs,c⟩:=Bj.1 B;obtain⟨x,E⟩:=(Nl c).2.2 l q;rcases ni E with rfl|⟨G,xs,rfl,_⟩
   .exact j.elim
   .exact j
  .cases h
theorem dJ{md:Md}{e:Ent}{b:Nat}(h:rr F S g md e b):(md.writes=false/\∃l∈e.cs,rdL F S g l b)\/F.K b:=by
 unfold rr at h;split at h
 .exact .inl ⟨rfl,h⟩
 .exact .inl ⟨rfl,h⟩
 .split at h
  .split at h
   .exact .inr (F.RK _ b h)
   .exact h.elim
  .exact h.elim
 .exact h.elim
set_option maxHeartbeats 2000000 in
theorem AUP(h:Inv F S g a w){ms:List Md}{es:List Ent}{us:List Value}{vs:List V}(hrd:∀(i:Nat) e,es[i]?=some e->∃u,us[i]?=some u/\Rd F S g w e u)(hlen:us.length=es.length)(hcl:Pd [] ms es=false)
 (ha:Vn S ms es=some (S2,vs)) :
 ∃R G U g1,Iu F S S2 g g1 a w/\MW F.A F.P w R G U ms vs us/\(∀i c b md,ms[i]?=some md->md.E2=true->G i c b->EA F S2 g1 b) /\
  (∀(i:Nat) md e,ms[i]?=some md->es[i]?=some e->AZj F S S2 g w R G U us i md e)/\(∀i c b,G i c b->nW S g ms es b)/\es.length=ms.length:=by
 unfold Vn at ha;split at ha
 .rename_i S1 cs hown;split at ha
  .rename_i vs' hmk;simp only[AD,A0]at ha;obtain⟨rfl,rfl⟩:=ha;obtain⟨hvl,hel,hget⟩:=ACA hmk;obtain⟨Us,hUl,hU⟩:=AJl (F:=F) (S:=S) (g:=g) (w:=w) es us hlen hrd;obtain⟨lv,hlv,hlvg⟩:=AC9 ms es Us hel hUl (by
    intro i e xs q hx;obtain⟨u,xs',_,Y,_,h4,_⟩:=hU i e q;rw[hx]at Y;cases Y;exact h4)
   have hclash:=Yf hcl hel;obtain⟨g1,hT,nf,⟨t1,t2,t3,t4,t5,t6⟩,hnf⟩:=Xk h (ls:=HQ ms es) (vs:=lv) (by
    intro x hx;obtain⟨k,hk⟩:=Bh hx;obtain⟨i,md,e,c,h1,Y,h3,h4,h5,h6⟩:=UF hk;obtain⟨u,xs,_,_,_,_,hno,_⟩:=hU i e Y;exact hno x (Ap h6)) hlv (by
    intro k l hk;obtain⟨i,md,e,c,h1,Y,h3,h4,rfl,h6⟩:=UF hk;obtain⟨u,xs,_,X,_,_,_,hok⟩:=hU i e Y;obtain⟨z,hz,hl⟩:=hok c l h6;refine⟨z,?_,fun _ _ _=>hl,fun _=>hl⟩;rw[hlvg i md e xs c h1 Y X h3 h4];exact hz) hown
   have htop:=(TK hown).2;have hbare:∀(i:Nat) id,ms[i]?=some Md.b->es[i]?=some ⟨.one,[.bp id 0]⟩->∃ls,get S.bx id=some ls/\∃cs,Fl (DW ls) ls=some cs:=by
    intro i id B q;obtain⟨V,_,hV⟩:=hget i _ _ B q;simp only[na,SB]at hV;split at hV
    .rename_i ls H;split at hV
     .rename_i cs hcs;exact⟨ls,H,cs,hcs⟩
     .cases hV
    .cases hV
   have hdead:∀(i:Nat) id,ms[i]?=some Md.b->es[i]?=some ⟨.one,[.bp id 0]⟩->∀c,¬CG S (.cell id c):=by
    rintro i id B q c ⟨x,hx⟩;obtain⟨ls,H,cs,hcs⟩:=hbare i id B q;simp only[St.at,H]at hx;obtain⟨y,hy⟩:=(Nl hcs).2.2 _ (Ap hx);simp[PY]at hy
   obtain⟨hB,hBl⟩:=dP ms es S1 hT.inv (fun i id B q c Z=>hdead i id B q c (hT.al _ Z));have hbox:∀(i:Nat) e,ms[i]?=some Md.b->es[i]?=some e->∃id,e=⟨.one,[.bp id 0]⟩:=by
    intro i e B q;obtain⟨V,_,hV⟩:=hget i _ _ B q;simp only[na,SB]at hV;split at hV
    .rename_i id;exact⟨id,rfl⟩
    .cases hV
   let G:Nat->Nat->Blk:=fun i c b=>match ms[i]?,es[i]? with|some .b,some e=>c=0/\∃id,e=⟨.one,[.bp id 0]⟩/\b=g.β id|some .o,some e=>c<e.cs.length/\nf (R4 ms es i+c) b|some .m,some e=>c<e.cs.length/\nf (R4 ms es i+c) b|_,_=>False
   let R:Nat->Blk:=fun i=>match ms[i]?,es[i]? with|some md,some e=>rr F S g md e|_,_=>fun _=>False
   let U:Nat->List Value:=fun i=>match ms[i]?,es[i]? with|some .b,some ⟨.one,[.bp id 0]⟩=>g.bv id|_,_=>Us.getD i []
   have hGt:∀{i c b md e},ms[i]?=some md->es[i]?=some e->md.E2=true->(G i c b↔c<e.cs.length/\nf (R4 ms es i+c) b):=by
    intro i c b md e B q J;simp only[G,B,q];cases md<;>simp[Md.E2]at J<;>simp
   have hGb:∀{i c b id},ms[i]?=some Md.b->es[i]?=some ⟨.one,[.bp id 0]⟩->(G i c b↔c=0/\b=g.β id):=by
    intro i c b id B q;simp only[G,B,q];constructor
    .rintro⟨h1,id',Y,h3⟩;cases Y;exact⟨h1,h3⟩
    .rintro⟨h1,Y⟩;exact⟨h1,id,rfl,Y⟩
   have hGn:∀{i c b},G i c b->∃md e,ms[i]?=some md/\es[i]?=some e/\md.writes=true:=by
    intro i c b hG;simp only[G]at hG;split at hG
    .rename_i e h1 Y;exact⟨_,e,h1,Y,rfl⟩
    .rename_i e h1 Y;exact⟨_,e,h1,Y,rfl⟩
    .rename_i e h1 Y;exact⟨_,e,h1,Y,rfl⟩
    .exact hG.elim
   have hUi:∀{i md e},ms[i]?=some md->es[i]?=some e->md≠.b->∃xs,Us[i]?=some xs/\U i=xs:=by
    intro i md e B q hne;obtain⟨u,xs,_,X,_⟩:=hU i e q;refine⟨xs,X,?_⟩;simp only[U,B,q];split
    .rename_i h1 _;cases h1;exact absurd rfl hne
    .simp[List.getD,X]
   have hRi:∀{i md e},ms[i]?=some md->es[i]?=some e->R i=rr F S g md e:=by
    intro i md e B q;simp only[R,B,q]
   have hRm:∀{i b},R i b->∃md e,ms[i]?=some md/\es[i]?=some e/\rr F S g md e b:=by
    intro i b hR;simp only[R]at hR;cases B:ms[i]? with
    |none=>simp[B]at hR|some md=>
     cases q:es[i]? with
     |none=>simp[B,q]at hR|some e=>simp only[B,q]at hR;exact⟨md,e,rfl,rfl,hR⟩
   have hcsl:cs.length=(HQ ms es).length:=by rw[<-t1,hlv]
   have hidx:∀{i md e c},ms[i]?=some md->es[i]?=some e->md.E2=true->c<e.cs.length->R4 ms es i+c<cs.length:=by
    intro i md e c B q J hc;have:=UE B q J hc;rw[List.getElem?_eq_getElem hc]at this;rw[hcsl];exact(AP.1 this).1
   have hGw:∀{i c b e},G i c b->es[i]?=some e->(∃id,e=⟨.one,[.bp id 0]⟩/\(get S.bx id).isSome/\b=g.β id)\/∃l r,l∈e.cs/\l.Bz=some r/\CG S r/\g.fp r b:=by
    intro i c b e hG q;obtain⟨md,e',B,he',hw⟩:=hGn hG;rw[q]at he';cases he';by_cases hmb:md=.b
    .subst hmb;obtain⟨id,rfl⟩:=hbox i e B q;obtain⟨ls,H,_⟩:=hbare i id B q;exact .inl ⟨id,rfl,by simp[H],((hGb B q).1 hG).2⟩
    .have J:md.E2=true:=by cases md<;>simp_all[Md.E2,Md.writes]
     obtain⟨hc,hn⟩:=(hGt B q J).1 hG;obtain⟨l,r,h1,Y,h3,h4⟩:=hnf _ b (hidx B q J hc) hn;rw[UE B q J hc]at h1;exact .inr ⟨l,r,Ap h1,Y,h3,h4⟩
   have hKb:∀{j c b e},G j c b->es[j]?=some e->¬F.K b:=by
    intro j c b e hG q hk;rcases hGw hG q with ⟨id,_,hs,rfl⟩|⟨l,r,_,_,Z,hf⟩
    .exact h.bxR id hs hk
    .exact h.Gu r Z b hf hk
   have hbpon:∀id,Fp id (.bp id 0)=true:=fun id=>by simp[Fp,AT.Lw]
   have rg:∀i j c b,R i b->¬G j c b:=by
    intro i j c b hR hG;obtain⟨mdj,ej,hmj,hej,hwj⟩:=hGn hG;have hRc:F.K b\/∃mdi ei,ms[i]?=some mdi/\es[i]?=some ei/\mdi.writes=false/\∃l∈ei.cs,rdL F S g l b:=by
     obtain⟨mdi,ei,h1,Y,hR⟩:=hRm hR;rcases dJ hR with ⟨hw,hR⟩|hk
     .exact .inr ⟨_,ei,h1,Y,hw,hR⟩
     .exact .inl hk
    rcases hRc with hk|⟨mdi,ei,O,L,hwi,l,hl,hrl⟩
    .exact hKb hG hej hk
    .have hne:j≠i:=by
      rintro rfl;rw[hmj]at O;cases O;rw[hwj]at hwi;cases hwi
     have hsh:=(hclash j mdj ej hmj hej hwj).2 i ei L hne;rcases rB hrl with hk|⟨r1,hr1,hal1,hf1⟩|⟨id1,hid1,hs1,hb1⟩
     .exact hKb hG hej hk
     .rcases hGw hG hej with ⟨id,rfl,hs,rfl⟩|⟨l',r,hl',hr,Z,hf⟩
      .exact h.FR r1 id hal1 hs hf1
      .by_cases hrr:r=r1
       .subst hrr;exact(HL hsh hl' hl).1 r hr hr1
       .exact h.dis r r1 Z hal1 hrr b hf hf1
     .rcases hGw hG hej with ⟨id,rfl,hs,hbe⟩|⟨l',r,hl',hr,Z,hf⟩
      .have hoff:=(HL hsh (l:=.bp id 0) (by simp) hl).2.2 id1 hid1;rcases hb1 with hb1|⟨c1,hal1,hf1⟩
       .have:id1=id:=h.GM id1 id hs1 hs (hb1.symm.trans hbe);subst this;rw[hbpon]at hoff;cases hoff
       .subst hbe;exact h.FR _ id hal1 hs hf1
      .have hoff:=(HL hsh hl' hl).2.2 id1 hid1;rcases hb1 with rfl|⟨c1,hal1,hf1⟩
       .exact h.FR r id1 Z hs1 hf
       .by_cases hrr:r=.cell id1 c1
        .subst hrr;exact OC hoff hr
        .exact h.dis r _ Z hal1 hrr b hf hf1
   have gg:∀i c j d b,G i c b->(i≠j\/c≠d)->¬G j d b:=by
    intro i c j d b hGi hne hGj;obtain⟨mdi,ei,O,L,hwi⟩:=hGn hGi;obtain⟨mdj,ej,hmj,hej,hwj⟩:=hGn hGj;by_cases hij:i=j
    .subst hij;rw[O]at hmj;cases hmj;rw[L]at hej;cases hej;have hcd:c≠d:=by rcases hne with h|h;exact absurd rfl h;exact h
     by_cases hmb:mdi=.b
     .subst hmb;obtain⟨id,rfl⟩:=hbox i ei O L;exact hcd (((hGb O L).1 hGi).1.trans ((hGb O L).1 hGj).1.symm)
     .have J:mdi.E2=true:=by cases mdi<;>simp_all[Md.E2,Md.writes]
      obtain⟨h1,Y⟩:=(hGt O L J).1 hGi;obtain⟨h3,h4⟩:=(hGt O L J).1 hGj;exact t6 _ _ b (hidx O L J h1) (hidx O L J h3) (by omega) Y h4
    .have hsh:=(hclash i mdi ei O L hwi).2 j ej hej hij;rcases hGw hGi L with ⟨id,rfl,hs,rfl⟩|⟨l,r,hl,hr,Z,hf⟩
     .rcases hGw hGj hej with ⟨id',rfl,hs',hbe⟩|⟨l',r',hl',hr',hal',hf'⟩
      .have:id=id':=h.GM id id' hs hs' hbe;subst this;have:=(HL hsh (l:=.bp id 0) (l':=.bp id 0) (by simp) (by simp)).2.1 id (by simp[names]);rw[hbpon]at this;cases this
      .exact h.FR r' id hal' hs hf'
     .rcases hGw hGj hej with ⟨id',rfl,hs',rfl⟩|⟨l',r',hl',hr',hal',hf'⟩
      .exact h.FR r id' Z hs' hf
      .by_cases hrr:r=r'
       .subst hrr;exact(HL hsh hl hl').1 r hr hr'
       .exact h.dis r r' Z hal' hrr b hf hf'
   have hes:∀{i:Nat} {md:Md},ms[i]?=some md->∃e,es[i]?=some e:=by
    intro i md B;have:i<ms.length:=(AP.1 B).1;exact⟨es[i]'(by omega),by simp[hel,this]⟩
   have hOwn:∀{i md e},ms[i]?=some md->es[i]?=some e->md.E2=true->xx w (G i) ((cs.drop (R4 ms es i)).take e.cs.length) (U i)/\((cs.drop (R4 ms es i)).take e.cs.length).length=e.cs.length:=by
    intro i md e B q J;obtain⟨xs,X,hUx⟩:=hUi B q (by rintro rfl;simp[Md.E2]at J);obtain⟨u,xs',_,E,_,hxl,_⟩:=hU i e q;rw[X]at E;cases E;have hl:((cs.drop (R4 ms es i)).take e.cs.length).length=e.cs.length:=by
     rw[List.length_take,List.length_drop];by_cases h0:e.cs.length=0
     .omega
     .have:=hidx B q J (c:=e.cs.length-1) (by omega);omega
    refine⟨⟨by rw[hUx,hxl,hl],?_⟩,hl⟩;intro c x hx;rw[List.getElem?_take]at hx;split at hx
    .rename_i hc;rw[Bq]at hx;obtain⟨z,hz,ho⟩:=t2 _ x hx;rw[hlvg i md e xs c B q X J hc]at hz;exact⟨z,by rw[hUx];exact hz,ho.congr fun b=>(hGt B q J).trans ⟨fun h=>h.2,fun h=>⟨hc,h⟩⟩⟩
    .cases hx
   refine⟨R,G,U,g1,⟨hB,?_,?_,hBl.pin.trans hT.pin,hT.tv,hT.bv,hT.β,hT.fp⟩,⟨hvl,by rw[hlen,hel],?_,?_,rg,gg,?_⟩,?_,?_,?_,hel⟩
   .intro r x' hx';exact hT.AB7 r x' ((hBl.ow r x').1 hx')
   .intro id hid;obtain⟨ls,H⟩:=Bj.1 hid;obtain⟨ls0,h0,_⟩:=hBl.bx id ls H;exact hT.bx id (by simp[h0])
   .intro i md V u B hV hu;obtain⟨e,q⟩:=hes B;obtain⟨V',hV',I⟩:=hget i md e B q;rw[hV]at hV';cases hV';obtain⟨u',xs,hu',X,hue,hxl,hno,hok⟩:=hU i e q;rw[hu]at hu';cases hu';have taken:md.E2=true->∀{sh cs'},(V=.o sh cs'\/V=.m sh cs')->sh=e.sh->cs'=(cs.drop (R4 ms es i)).take e.cs.length->u=mkV sh (U i)/\xx w (G i) cs' (U i)/\∀c b,G i c b->c<cs'.length:=by
     rintro J sh cs' _ rfl rfl;obtain⟨o1,o2⟩:=hOwn B q J;obtain⟨xs',E,hUx⟩:=hUi B q (by rintro rfl;simp[Md.E2]at J);rw[X]at E;cases E;exact⟨by rw[hUx];exact hue,o1,fun c b hG=>by rw[o2];exact((hGt B q J).1 hG).1⟩
    have other:md.E2=false->SB S md e=some V->Z8 F.A F.P w (R i) (G i) (U i) md V u:=by
     intro J hv;rw[hRi B q];refine AUO h hv (by
      obtain⟨u',hu',hr⟩:=hrd i e q;rw[hu]at hu';cases hu';exact hr) ?_ ?_ ?_ ?_
     .intro hne;obtain⟨xs',E,hUx⟩:=hUi B q hne;rw[X]at E;cases E;rw[hUx];exact⟨hue,hxl,hno,hok⟩
     .rintro id rfl rfl;simp only[U,B,q]
     .intro hne c b hG;obtain⟨md',e',hm',_,hw⟩:=hGn hG;rw[B]at hm';cases hm';cases md<;>simp[Md.E2,Md.writes]at J hw hne
     .rintro id rfl rfl c b;exact hGb B q
    cases md with
    |o=>have hmk1':V=_:=I;subst hmk1';exact taken rfl (.inl rfl) rfl rfl|m=>obtain⟨hmk1',_⟩:=I;subst hmk1';exact taken rfl (.inr rfl) rfl rfl
    |v=>exact other rfl I|p=>exact other rfl I|b=>exact other rfl I
   .intro i b hR;obtain⟨mdi,ei,h1,Y,hR⟩:=hRm hR;rcases dJ hR with ⟨hw,l,_,hl⟩|hk
    .exact AXa h hl
    .exact BR (h.rlt b hk) h.size
   .intro i c b hG;obtain⟨md,e,B,_⟩:=hGn hG;exact(AP.1 B).1
   .intro i c b md B J hG;obtain⟨e,q⟩:=hes B;obtain⟨hc,hn⟩:=(hGt B q J).1 hG;have hk:=hidx B q J hc;refine⟨t3 _ b hk hn,fun r hr=>t4 _ r b hk ?_ hn,fun id hid hbe=>t5 _ id hk ?_ (hbe▸hn)⟩
    .obtain⟨x,hx⟩:=hr;exact⟨x,(hBl.ow r x).1 hx⟩
    .obtain⟨ls,H⟩:=Bj.1 hid;obtain⟨ls0,h0,_⟩:=hBl.bx id ls H;simp[h0]
   .intro i md e B q;obtain⟨V',hV',I⟩:=hget i md e B q;obtain⟨u,xs,hu,X,hue,hxl,hno,hok⟩:=hU i e q;constructor
    .cases md with
     |v=>trivial|p=>trivial|o=>trivial|b=>
      obtain⟨id,rfl⟩:=hbox i e B q;obtain⟨ls,H,_⟩:=hbare i id B q;refine⟨id,ls,rfl,H,?_,?_,fun c b=>hGb B q,?_,fun ls' hl'=>hBl.all i id B q ls' hl'⟩
      .rw[hRi B q];funext b;simp[rr,H]
      .simp only[U,B,q]
      .obtain⟨u',hu',hr⟩:=hrd i _ q;have:u'=_:=Xi hr rfl;rw[hu',this]
     |m=>
      obtain⟨xs',E,hUx⟩:=hUi B q (by simp);rw[X]at E;cases E;obtain⟨_,hpl,_⟩:=I;refine⟨by rw[hUx];exact hxl,(QH hown).sublist (rS B q rfl),?_⟩;intro c l hl;obtain⟨z,hz,hlz⟩:=hok c l hl;have hmem:l∈HQ ms es:=by
       have hc:c<e.cs.length:=(AP.1 hl).1;have:=UE B q (by rfl) hc;rw[hl]at this;exact Ap this
      refine⟨(DI.1 hpl) l (Ap hl),z,by rw[hUx];exact hz,hlz,?_,?_⟩
      .rintro r sub rfl;exact hBl.top r (htop r sub hmem)
      .rintro r ⟨i',j'⟩ e' xs' rfl;obtain⟨e0,rows,hx⟩:=QI hown hmem;exact⟨_,(hBl.ow r _).2 hx⟩
    .intro hmd lab hlab b hR;rw[hRi B q]at hR;cases md with
     |v=>
      obtain⟨l,hl,hrl⟩:=hR;refine ARU hlab ?_ hl hrl;rintro id off rfl;simp[na,SB,St.HN,St.HR]at I
     |p=>exact absurd rfl hmd|o=>exact hR.elim|m=>exact hR.elim|b=>
      obtain⟨id,rfl⟩:=hbox i e B q;obtain⟨ls,H,_⟩:=hbare i id B q;simp only[rr,H]at hR;simp only[kv,H]at hlab;split at hlab
      .cases hlab;exact hR
      .cases hlab
   .intro i c b hG;obtain⟨md,e,B,q,hw⟩:=hGn hG;exact⟨i,md,e,B,q,hw,hGw hG q⟩
  .cases ha
 .cases ha
end
section
variable{F:Fix}{S S' S1 S2:St}{g g' g1:Gh}{a a':Act}{w w':World}
def Fix.ext(F:Fix)(Z:Blk)(w:World):Fix:=
 { F with R:=fun k b=>F.R k b\/Z b,K:=fun b=>F.K b\/Z b,RK:=fun k b h=>h.elim (fun h=>.inl (F.RK k b h)) .inr,w0:=w}
theorem FJ.ext{l:AT}{v:Value}{Z:Blk}{w1:World}(h:FJ F g w l v):FJ (F.ext Z w1) g w l v:=by
 match l,h with
 |.t _,h=>exact h|.und,h=>exact h|.vw (.old k) e xs,h=>
  have hV:View w (F.R k) (.sl e xs) v:=h;exact hV.up fun b c=>.inl c
 |.vp (.old k) cs,h=>
  have hV:Uy w (F.R k) cs v:=h;exact hV.up fun b c=>.inl c
 |.bp _ _,h=>exact h
theorem Bt.ext{fp:Blk}{l:AT}{v:Value}{Z:Blk}{w1:World}(h:Bt F S g w fp l v):Bt (F.ext Z w1) S g w fp l v:=by
 match l,h with
 |.ow _,h=>exact h|.al _ _,h=>exact h|.ep _ _ _,h=>exact h|.vw (.own _ _) _ _,h=>exact h|.vp (.own _ _) _,h=>exact h|.fn f caps,⟨n,cv,j,q,y,B⟩=>exact⟨n,cv,j,q,y,fun i l c G E=>(B i l c G E).ext⟩|.t x,h=>exact FJ.ext (F:=F) (g:=g) (w:=w) (Z:=Z) (w1:=w1) (l:=.t x) h|.und,h=>exact FJ.ext (F:=F) (g:=g) (w:=w) (Z:=Z) (w1:=w1) (l:=.und) h|.vw (.old k) e xs,h=>exact FJ.ext (F:=F) (g:=g) (w:=w) (Z:=Z) (w1:=w1) (l:=.vw (.old k) e xs) h|.vp (.old k) cs,h=>exact FJ.ext (F:=F) (g:=g) (w:=w) (Z:=Z) (w1:=w1) (l:=.vp (.old k) cs) h|.bp i o,h=>exact FJ.ext (F:=F) (g:=g) (w:=w) (Z:=Z) (w1:=w1) (l:=.bp i o) h
theorem Inv.ext(h:Inv F S g a w){Z:Blk}(hZ:∀b,Z b->b<w.heap.size/\(∀r,CG S r->¬g.fp r b)/\∀id,(get S.bx id).isSome->b≠g.β id):Inv (F.ext Z w) S g a w where
 Cq r l E:=let ⟨v,G,q⟩:=h.Cq r l E;⟨v,G,q.ext⟩
 tms:=h.tms
 bxs:=h.bxs
 dis:=h.dis
 FR:=h.FR
 Gu r B b y c:=by
  rcases c with c|j
  .exact h.Gu r B b y c
  .exact(hZ b j).2.1 r B y
 GM:=h.GM
 bxR id e c:=by
  rcases c with c|j
  .exact h.bxR id e c
  .exact(hZ _ j).2.2 id e rfl
 FV _ _:=rfl
 rlt b c:=by
  rcases c with c|j
  .exact BR (h.rlt b c) h.size
  .exact(hZ b j).1
 still:=.refl
 defs:=h.defs
 tsz:=h.tsz
 pin:=h.pin
theorem Inv.called(h:Inv F S g a w){B:Nat->Prop}{nb:Nat->List Value}(hs:Still w w')
 (hw:∀b,b<w.heap.size->(F.K b\/(∃r,CG S r/\g.fp r b)\/∃id,(get S.bx id).isSome/\¬B id/\b=g.β id)->w'.heap[b]?=w.heap[b]?)
 (hB:∀id ls,B id->get S.bx id=some ls->(∀l∈ls,l=.t .top)/\∃E,w'.heap[g.β id]?=some (.cells (nb id).toArray E (0,0))/\(nb id).length=(g.bv id).length)
 (X:∀id,¬B id->nb id=g.bv id):Inv F S { g with bv:=nb} a w':=by
 have hR:∀b,F.K b->w'.heap[b]?=w.heap[b]?:=fun b e=>hw b (BR (h.rlt b e) h.size) (.inl e)
 have H:∀r,CG S r->∀b,g.fp r b->w'.heap[b]?=w.heap[b]?:=by
  intro r hr b e;obtain⟨x,G⟩:=hr;obtain⟨v,_,q⟩:=h.Cq r _ G;exact hw b (Own.lt q b e) (.inr (.inl ⟨r,⟨x,G⟩,e⟩))
 have hdead:∀id c x,B id->S.at (.cell id c)≠some (.ow x):=by
  intro id c x e G;cases j:get S.bx id with
  |none=>simp[St.at,j]at G|some ls=>
   simp only[St.at,j]at G;have:=(hB id ls e j).1 _ (Ap G);cases this
 have O:∀r,CG S r->({ g with bv:=nb}:Gh).rv r=g.rv r:=by
  rintro r ⟨x,G⟩;cases r with
  |tmp s c=>rfl|cell id c=>
   have:¬B id:=fun e=>hdead id c x e G
   simp[Gh.rv,X id this]
 refine { Cq:=?_,tms:=h.tms,bxs:=?_,dis:=h.dis,FR:=h.FR,Gu:=h.Gu,GM:=h.GM,bxR:=h.bxR,FV:=?_,rlt:=h.rlt,still:=h.still.trans hs,defs:=h.defs,tsz:=h.tsz,pin:=h.pin}
 .intro r l y;obtain⟨v,Z,q⟩:=h.Cq r l y;by_cases J:∃x,l=.ow x
  .obtain⟨x,rfl⟩:=J;exact⟨v,by rw[O r ⟨x,y⟩];exact Z,Own.frame q (H r ⟨x,y⟩)⟩
  .have I:∀x,l≠.ow x:=fun x G=>J ⟨x,G⟩
   have tr:Bt F S { g with bv:=nb} w' (g.fp r) l v:=
    Bt.any I ((Bt.any (fp':=fun _=>False) I q).tr (S':=S) (g':={ g with bv:=nb}) (w':=w') (fun r1 L=>⟨rfl,O r1 (q.alive L),fun _ h=>h,H r1 (q.alive L)⟩) (fun _ _=>rfl) (fun _ h=>h.elim) hR)
   cases r with
   |tmp s c=>exact⟨v,Z,tr⟩|cell id c=>
    by_cases e:B id
    .cases j:get S.bx id with
     |none=>simp[St.at,j]at y|some ls=>
      simp only[St.at,j]at y;obtain⟨k1,E,k2,k3⟩:=hB id ls e j;have:=k1 _ (Ap y);subst this;have Y:c<(nb id).length:=by
       rw[k3,(h.bxs id ls j).2];exact(AP.1 y).1
      exact⟨(nb id)[c],by simp[Gh.rv,Y],Bt.top⟩
    .exact⟨v,by simpa[Gh.rv,X id e] using Z,tr⟩
 .intro id ls y;obtain⟨⟨E,hE⟩,h2⟩:=h.bxs id ls y;by_cases e:B id
  .obtain⟨k1,E',k2,k3⟩:=hB id ls e y;exact⟨⟨E',k2⟩,k3.trans h2⟩
  .refine⟨⟨E,?_⟩,by rw[show ({ g with bv:=nb}:Gh).bv id=g.bv id from X id e];exact h2⟩;rw[show ({ g with bv:=nb}:Gh).bv id=g.bv id from X id e];exact(hw _ (A1.1 hE).1 (.inr (.inr ⟨id,by simp[y],e,rfl⟩))).trans hE
 .intro b e;exact(hR b e).trans (h.FV b e)
theorem Own.fill{e:Nat}{rows:List (List T)}{blk off len cap:Nat}{fp D:Blk}{i j:Nat}{x y:T}{z:Value}(h:Own w (.sl e rows) (.slice (some ⟨blk,off,none⟩) len cap) fp)(O:at2 rows i j=some y)
 (hz:w.cell? ⟨blk,off+i*e+j,none⟩=some z) (ho:Own w x z D) (hD:∀b,D b->¬fp b) :
 ∃fp':Blk,Own w (.sl e (JA rows i j x)) (.slice (some ⟨blk,off,none⟩) len cap) fp'/\∀b,fp' b->fp b\/D b:=by
 cases h with
 |sc h _ _=>exact h.elim|sl c f h1 h2 h3 Z h5 Y h7 h8 h9 X=>
  have hc:c i j=z:=by
   rw[Z.cell,Y i j y O]at hz;exact Option.some.inj hz
  subst hc;have hi:=sA O;have L:fp _:=(X _).2 (.inl rfl);have J:∀q B E,at2 (JA rows i j x) q B=some E->(q=i/\B=j/\E=x)\/(¬(q=i/\B=j)/\at2 rows q B=some E):=by
   intro q B E H;rw[yG O]at H;split at H
   .rename_i I;exact .inl ⟨I.1,I.2,(Option.some.inj H).symm⟩
   .rename_i I;exact .inr ⟨I,H⟩
  refine⟨fun b=>b=_\/∃q B E,at2 (JA rows i j x) q B=some E/\(if q=i/\B=j then D else f q B) b,
   .sl c (fun q B=>if q=i/\B=j then D else f q B) (by rw[QQ];exact h1) h2 (rL h3 hi) Z h5 ?_ ?_ ?_ ?_ (fun b=>Iff.rfl),?_⟩
  .intro q B E H;rcases J q B E H with ⟨rfl,rfl,rfl⟩|⟨I,G⟩
   .exact Y _ _ _ O
   .exact Y _ _ _ G
  .intro q B E H;rcases J q B E H with ⟨rfl,rfl,rfl⟩|⟨I,G⟩
   .simpa using ho
   .rw[AU I];exact h7 _ _ _ G
  .intro q B E H;rcases J q B E H with ⟨rfl,rfl,rfl⟩|⟨I,G⟩
   .simp only[and_self,if_true];exact fun hb=>hD _ hb L
   .rw[AU I];exact h8 _ _ _ G
  .grind
  .grind
structure K2(S S':St)(g g':Gh)(N:Blk)(ok:CD->Prop):Prop where
 tv:g'.tv=g.tv
 bv:g'.bv=g.bv
 β:g'.β=g.β
 fp:∀r,CG S' r->∀b,g'.fp r b->(CG S r/\g.fp r b)\/N b
 pin:S'.pin=S.pin
 bx:∀id ls',get S'.bx id=some ls'->∃ls,get S.bx id=some ls/\ls'.length=ls.length
 bx2:∀id ls,get S.bx id=some ls->∃ls',get S'.bx id=some ls'
 top:∀r,¬ok r->S.at r=some (.t .top)->S'.at r=some (.t .top)
 ow:∀r x,¬ok r->S'.at r=some (.ow x)->S.at r=some (.ow x)
 al:∀r,CG S' r->CG S r\/ok r
theorem K2.rv{N:Blk}{ok:CD->Prop}(h:K2 S S' g g' N ok)(r:CD):g'.rv r=g.rv r:=by cases r<;>simp[Gh.rv,h.tv,h.bv]
theorem K2.refl:K2 S S g g (fun _=>False) (fun _=>False):=⟨rfl,rfl,rfl,fun _ c _ h=>.inl ⟨c,h⟩,rfl,fun _ ls h=>⟨ls,h,rfl⟩,fun _ ls h=>⟨ls,h⟩,fun _ _ h=>h,fun _ _ _ h=>h,fun _ h=>.inl h⟩
theorem K2.trans{G:Gh}{N N':Blk}{ok q:CD->Prop}(h:K2 S S' g g' N ok)(e:K2 S' S2 g' G N' q):K2 S S2 g G (fun b=>N b\/N' b) (fun r=>ok r\/q r) where
 tv:=e.tv.trans h.tv
 bv:=e.bv.trans h.bv
 β:=e.β.trans h.β
 fp r c b j:=by
  rcases e.fp r c b j with ⟨c,j⟩|j
  .rcases h.fp r c b j with j|j
   .exact .inl j
   .exact .inr (.inl j)
  .exact .inr (.inr j)
 pin:=e.pin.trans h.pin
 bx id ls' y:=let ⟨E,B,J⟩:=e.bx id ls' y;let ⟨X,L,O⟩:=h.bx id E B;⟨X,L,J.trans O⟩
 bx2 id ls y:=let ⟨E,B⟩:=h.bx2 id ls y;e.bx2 id E B
 top r c H:=e.top r (fun h=>c (.inr h)) (h.top r (fun h=>c (.inl h)) H)
 ow r x c I:=h.ow r x (fun h=>c (.inl h)) (e.ow r x (fun h=>c (.inr h)) I)
 al r c:=by
  rcases e.al r c with c|c
  .rcases h.al r c with c|c
   .exact .inl c
   .exact .inr (.inl c)
  .exact .inr (.inr c)
theorem K2.mono{N N':Blk}{ok j:CD->Prop}(h:K2 S S' g g' N ok)(hN:∀b,N b->N' b)(c:∀r,ok r->j r):K2 S S' g g' N' j:=
 { h with fp:=fun r e b q=>(h.fp r e b q).imp id (hN b),top:=fun r e=>h.top r fun h=>e (c r h),ow:=fun r x e=>h.ow r x fun h=>e (c r h),al:=fun r e=>(h.al r e).imp id (c r)}
theorem EA.sI{b:Nat}{N:Blk}{ok:CD->Prop}(h:EA F S g b)(hC:K2 S S' g g' N ok)(hN:¬N b):EA F S' g' b:=by
 refine⟨h.1,fun r B c=>?_,fun id j=>?_⟩
 .rcases hC.fp r B b c with ⟨e,c⟩|c
  .exact h.2.1 r e c
  .exact hN c
 .rw[hC.β];obtain⟨ls,q⟩:=Bj.1 j;obtain⟨E,y,_⟩:=hC.bx id ls q;exact h.2.2 id (by simp[y])
theorem Inv.ABh(h:Inv F S g a w){r:CD}{x:T}{z:Value}{D:Blk}(hr:S.at r=some (.t .top))(hz:g.rv r=some z)(ho:Own w x z D)(hD:∀b,D b->EA F S g b) :
 Inv F (S.Bi r (.ow x)) { g with fp:=fun r'=>if r'=r then D else g.fp r'} a w/\K2 S (S.Bi r (.ow x)) g { g with fp:=fun r'=>if r'=r then D else g.fp r'} D (fun r'=>r'=r):=by
 have I:∀r',(S.Bi r (.ow x)).at r'=if r'=r then some (.ow x) else S.at r':=fun r'=>Ei hr _ r'
 have hdead:¬CG S r:=by rintro⟨y,O⟩;rw[hr]at O;cases O
 have B:∀r',CG (S.Bi r (.ow x)) r'->r'=r\/(r'≠r/\CG S r'):=by
  rintro r' ⟨y,O⟩;rw[I]at O;split at O
  .exact .inl (by assumption)
  .exact .inr ⟨by assumption,y,O⟩
 have hsome:∀id,(get (S.Bi r (.ow x)).bx id).isSome=(get S.bx id).isSome:=fun id=>Dd
 constructor
 .refine { Cq:=?_,tms:=?_,bxs:=?_,dis:=?_,FR:=?_,Gu:=?_,GM:=fun id id' q H=>h.GM id id' (by rwa[<-hsome]) (by rwa[<-hsome]),bxR:=fun id q=>h.bxR id (by rwa[<-hsome]),FV:=h.FV,rlt:=h.rlt,still:=h.still,defs:=h.defs,tsz:=h.tsz,pin:=?_}
  .intro r' l L;rw[I]at L;split at L
   .rename_i heq;subst heq;cases L;refine⟨z,hz,?_⟩;simp only[if_true];exact ho
   .rename_i j;obtain⟨v,hv,hok⟩:=h.Cq r' l L;refine⟨v,hv,?_⟩;simp only[AU j];refine hok.off (r:=r) ?_ ?_ ?_ (fun Z=>by cases Z<;>rfl) rfl
    .intro hroot;exact hdead (hok.alive hroot)
    .intro Z J _;rw[I,AU J]
    .intro Z J;simp[J]
  .intro s e he;obtain⟨e0,q,H,h3⟩:=Lk he;obtain⟨p1,p2,p3⟩:=h.tms s e0 q;exact⟨p1,by rw[p2,H],by rw[p3,h3]⟩
  .intro id ls L;obtain⟨l0,q,H⟩:=Iz L;obtain⟨p1,p2⟩:=h.bxs id l0 q;exact⟨p1,by rw[p2,H]⟩
  .intro X r2 q H j b c E;dsimp only at c E;rcases B X q with rfl|⟨n1,a1⟩
   .rw[AX rfl]at c;rcases B r2 H with rfl|⟨n2,a2⟩
    .exact j rfl
    .rw[AU n2]at E;exact(hD b c).2.1 r2 a2 E
   .rw[AU n1]at c;rcases B r2 H with rfl|⟨n2,a2⟩
    .rw[AX rfl]at E;exact(hD b E).2.1 X a1 c
    .rw[AU n2]at E;exact h.dis X r2 a1 a2 j b c E
  .intro X id q Y c;rw[hsome]at Y;dsimp only at c;rcases B X q with rfl|⟨n1,a1⟩
   .rw[AX rfl]at c;exact(hD _ c).2.2 id Y rfl
   .rw[AU n1]at c;exact h.FR X id a1 Y c
  .intro X q b c;dsimp only at c;rcases B X q with rfl|⟨n1,a1⟩
   .rw[AX rfl]at c;exact(hD _ c).1
   .rw[AU n1]at c;exact h.Gu X a1 b c
  .intro p hp;rw[G8]at hp;obtain⟨q,H⟩:=h.pin p hp;exact⟨q,fun hs=>H (by rwa[<-hsome])⟩
 .refine⟨rfl,rfl,rfl,?_,G8,?_,?_,?_,?_,?_⟩
  .intro r' G b c;dsimp only at c;rcases B r' G with rfl|⟨j,G⟩
   .rw[AX rfl]at c;exact .inr c
   .rw[AU j]at c;exact .inl ⟨G,c⟩
  .intro id ls' L;obtain⟨l0,q,H⟩:=Iz L;exact⟨l0,q,H⟩
  .intro id ls L;have:(get (S.Bi r (.ow x)).bx id).isSome:=by rw[hsome];simp[L]
   exact Bj.1 this
  .intro r' j ht;rw[I,AU j];exact ht
  .intro r' y j O;rw[I,AU j]at O;exact O
  .intro r' G;rcases B r' G with rfl|⟨_,G⟩
   .exact .inr rfl
   .exact .inl G
theorem Inv.AN5(h:Inv F S g a w){r:CD}{e:Nat}{rows:List (List T)}{blk off len cap i j:Nat}{x y:T}{z:Value}{D:Blk}(B:S.at r=some (.ow (.sl e rows)))(Z:g.rv r=some (.slice (some ⟨blk,off,none⟩) len cap))(hy:at2 rows i j=some y)
 (hz:w.cell? ⟨blk,off+i*e+j,none⟩=some z) (ho:Own w x z D) (hD:∀b,D b->EA F S g b) :
 ∃g',Inv F ((S.Bi r (.ow (.sl e (JA rows i j x)))).kill (FW r)) g' a w/\K2 S ((S.Bi r (.ow (.sl e (JA rows i j x)))).kill (FW r)) g g' D (fun r'=>r'=r):=by
 obtain⟨u',J,I⟩:=h.Cq r _ B;rw[Z]at J;cases J;obtain⟨fp',o1,Y⟩:=Own.fill I hy hz ho (fun b c=>(hD b c).2.1 r ⟨_,B⟩);have H:=h.xD (w':=w) (ys:=JA rows i j x) (fp':=fp') B Z QQ Still.refl (fun _ _ _=>rfl) o1 (fun b c=>by
  rcases Y b c with c|c
  .exact h.Gu r ⟨_,B⟩ b c
  .exact(hD b c).1) (fun r' q E b c=>by
  rcases Y b c with c|c
  .exact h.dis r r' ⟨_,B⟩ q (Ne.symm E) b c
  .exact(hD b c).2.1 r' q)
  (fun id G c=>by
   rcases Y _ c with c|c
   .exact h.FR r id ⟨_,B⟩ G c
   .exact(hD _ c).2.2 id G rfl)
 have L:∀r',CG ((S.Bi r (.ow (.sl e (JA rows i j x)))).kill (FW r)) r'->CG S r':=by
  rintro r' ⟨y',O⟩;obtain⟨y0,X,_⟩:=qW B QQ r' y' O;exact⟨y0,X⟩
 refine⟨_,H,rfl,rfl,rfl,?_,ACR,?_,?_,?_,?_,fun r' q=>.inl (L r' q)⟩
 .grind
 .grind[St.kill,DL,Option.map_eq_some_iff,Iz,FF]
 .grind[get,JA,Dd,Option.isSome_iff_exists,ES,FW,St.kill,DL]
 .intro r' E ht;rw[Ok B,AU E,ht];rfl
 grind[Ok,Option.map_eq_some_iff]
def Place(S:St)(g:Gh)(w:World)(l:AT)(z:Value):Prop:=
 match l with
 |.al r none=>S.at r=some (.t .top)/\g.rv r=some z|.vw (.own r (some (i,j))) _ _=>∃e0 n blk off len cap,g.rv r=some (.slice (some ⟨blk,off,none⟩) len cap)/\w.cell? ⟨blk,off+i*e0+j,none⟩=some z/\i<n/\j<e0/\∀e1 rows,S.at r=some (.ow (.sl e1 rows))->e1=e0/\rows.length=n|_=>True
theorem Place.sI{l:AT}{z:Value}{N:Blk}{ok:CD->Prop}(h:Place S g w l z)(hC:K2 S S' g g' N ok)(c:∀r,l.Bz=some r->¬ok r):Place S' g' w l z:=by
 unfold Place at h ⊢;split at h
 .rename_i r;exact⟨hC.top r (c r rfl) h.1,(hC.rv r).trans h.2⟩
 .rename_i r i j _ _;obtain⟨e,n,blk,off,len,cap,y,B,E,G,H⟩:=h;exact⟨e,n,blk,off,len,cap,(hC.rv r).trans y,B,E,G,fun q rows I=>H q rows (hC.ow r _ (c r rfl) I)⟩
 .trivial
theorem Nz:∀(ls:List AT) (os:List T) (us:List Value) (D:Nat->Blk) (S S':St) (g:Gh),Inv F S g a w->HP S ls os=some S'->(∀(c:Nat) l,ls[c]?=some l->∃z,us[c]?=some z/\Place S g w l z) ->
 (∀(c:Nat) x,os[c]?=some x->∃z,us[c]?=some z/\Own w x z (D c))->(∀c b,D c b->EA F S g b)->(∀c d b,c≠d->D c b->¬D d b)->ls.Pairwise AUB ->
 ∃g',Inv F S' g' a w/\K2 S S' g g' (fun b=>∃c,D c b) (fun r=>∃l∈ls,l.Bz=some r)
 | [],os,us,D,S,S',g,h,q,_,_,_,_,_=>by
  cases os with
  |nil=>simp only[HP,AD]at q;subst q;exact⟨g,h,K2.refl.mono (fun _ h=>h.elim) (fun _ h=>h.elim)⟩|cons=>simp[HP]at q
 |l::ls,[],us,D,S,S',g,h,q,_,_,_,_,_=>by simp[HP]at q|l::ls,o::os,us,D,S,S',g,h,q,hp,ho,hl,hd,hdist=>by
  obtain⟨hd1,hd2⟩:=List.pairwise_cons.1 hdist;obtain⟨z,hz,J⟩:=hp 0 l rfl;obtain⟨Z,B,I⟩:=ho 0 o rfl;rw[hz]at B;cases B;have next:∀(S1:St) (g1:Gh),Inv F S1 g1 a w->K2 S S1 g g1 (D 0) (fun r=>l.Bz=some r)->HP S1 ls os=some S' ->
   ∃g',Inv F S' g' a w/\K2 S S' g g' (fun b=>∃c,D c b) (fun r=>∃l'∈l::ls,l'.Bz=some r):=by
   intro S1 g1 h1 hC1 hf1;obtain⟨g2,h2,hC2⟩:=Nz ls os us.tail (fun c=>D (c+1)) S1 S' g1 h1 hf1 (by
    intro c l' H;obtain⟨Z,B,L⟩:=hp (c+1) l' (by simpa using H);exact⟨Z,by rw[JO];exact B,L.sI hC1 fun r O G=>hd1 l' (Ap H) r G O⟩) (by
    intro c x Y;obtain⟨Z,B,ho'⟩:=ho (c+1) x (by simpa using Y);exact⟨Z,by rw[JO];exact B,ho'⟩)
    (fun c b E=>(hl (c+1) b E).sI hC1 (hd (c+1) 0 b (by omega) E)) (fun c d b hne E=>hd _ _ b (by omega) E) hd2
   refine⟨g2,h2,(hC1.trans hC2).mono ?_ ?_⟩
   .rintro b (E|⟨c,E⟩)
    .exact⟨0,E⟩
    .exact⟨c+1,E⟩
   .rintro r (O|⟨l',H,O⟩)
    .exact⟨l,by simp,O⟩
    .exact⟨l',by simp[H],O⟩
  simp only[HP]at q;split at q
  .rename_i r;obtain⟨k1,k2⟩:=J;obtain⟨q1,q2⟩:=h.ABh k1 k2 I (fun b E=>hl 0 b E);exact next _ _ q1 (q2.mono (fun _ h=>h) (fun r' G=>by subst G;rfl)) q
  .rename_i r i j e' xs';split at q
   .rename_i e rows Y;obtain⟨e0,n,blk,off,len,cap,k1,k2,k3,k4,k5⟩:=J;obtain⟨rfl,k6⟩:=k5 e rows Y;obtain⟨u,hu,hO⟩:=h.Cq r _ Y;have X:∀row∈rows,row.length=e:=by
     have hO':Own w (.sl e rows) u (g.fp r):=hO;cases hO' with
     |sc hh _ _=>exact hh.elim|nl=>simp|sl c f p1 p2 p3=>exact p3
    obtain⟨y,hy⟩:=Nh X (i:=i) (j:=j) (by omega) k4;obtain⟨g1,q1,q2⟩:=h.AN5 Y k1 hy k2 I (fun b E=>hl 0 b E);exact next _ _ q1 (q2.mono (fun _ h=>h) (fun r' G=>by subst G;rfl)) q
   .cases q
  .refine next S g h ?_ q;exact K2.refl.mono (fun _ h=>h.elim) (fun _ h=>h.elim)
  .cases q
end
section
variable{F:Fix}{S S' S0 S1 S2:St}{g g' g1:Gh}{a a':Act}{w w':World}
theorem TC{k:Nat}{x y:T}:EN k x≠.ow y:=by cases x<;>simp[EN]
theorem P8{k:Nat}{x:T}{v:Value}{fp:Blk}(h:View w (F.R k) x v):Bt F S g w fp (EN k x) v:=by
 cases x with
 |sl e xs=>exact h|mp ks=>trivial|_=>cases h with|sc h=>exact h
theorem Inv.AUx(h:Inv F S g a w){id lab:Nat}{q:List AT}{o:List T}(B:get S.bx id=some q)(X:∀l∈q,l=.t .top)(L:o.length=q.length)(hv:KF w (F.R lab) o (g.bv id)) :
 ∃g',Inv F { S with bx:=Lv.put S.bx id (o.map (EN lab))} g' a w/\K2 S { S with bx:=Lv.put S.bx id (o.map (EN lab))} g g' (fun _=>False) (fun r=>∃c,r=.cell id c):=by
 obtain⟨⟨E,hE⟩,Y⟩:=h.bxs id q B;have hsome:(get S.bx id).isSome:=by simp[B]
 have hdead:∀c x,S.at (.cell id c)≠some (.ow x):=by
  intro c x e;simp only[St.at,B]at e;cases X _ (Ap e)
 have J:=h.AJW (w':=w) (d:=id) (blk:=g.β id) (E:=E) (vs:=g.bv id) (ls:=o.map (EN lab)) (nf:=fun _ _=>False) Still.refl (fun _ _ _=>rfl) hE (h.bxR id hsome) (fun r O=>h.FR r id O hsome)
  (fun id' j hs Z=>j (h.GM id' id hs hsome Z)) (.inl rfl) (fun l _ c x _ e=>absurd e (hdead c x)) (by rw[An,L];exact Y) (by
   intro c l hl;rw[A2,AO]at hl;obtain⟨x,e,rfl⟩:=hl;obtain⟨z,hz,hV⟩:=hv.2 c x e;exact⟨z,hz,P8 hV⟩) (by
   intro c x e;rw[A2,AO]at e;obtain⟨y,_,hy⟩:=e;exact absurd hy TC) (fun _=>⟨hsome,rfl⟩)
 have I:∀r,(∀c,r≠.cell id c)->({ S with bx:=Lv.put S.bx id (o.map (EN lab))}:St).at r=S.at r:=by
  grind[M7]
 have H:∀c x,({ S with bx:=Lv.put S.bx id (o.map (EN lab))}:St).at (.cell id c)≠some (.ow x):=by
  intro c x e;rw[M7]at e;simp only[if_true]at e;rw[A2,AO]at e;obtain⟨y,_,hy⟩:=e;exact TC hy
 have G:∀r,CG ({ S with bx:=Lv.put S.bx id (o.map (EN lab))}:St) r->(∀c,r≠.cell id c)/\CG S r:=by
  rintro r ⟨x,e⟩;have j:∀c,r≠.cell id c:=by rintro c rfl;exact H c x e
  exact⟨j,x,by rw[I r j]at e;exact e⟩
 refine⟨_,J,rfl,?_,?_,?_,rfl,?_,?_,?_,?_,fun r O=>.inl (G r O).2⟩
 .funext i;by_cases hh:i=id<;>simp[Gh.F3,hh]
 .funext i;by_cases hh:i=id<;>simp[Gh.F3,hh]
 .intro r O b hb;obtain⟨j,hr'⟩:=G r O;refine .inl ⟨hr',?_⟩;cases r with
  |tmp s c=>exact hb|cell b' c=>
   have:b'≠id:=by rintro rfl;exact j c rfl
   simpa[Gh.F3,this] using hb
 .grind[get,Lv.put,EN,Fv]
 .grind[get,Lv.put,EN,Fv]
 .intro r j ht;rw[I r (fun c hc=>j ⟨c,hc⟩)];exact ht
 grind
def Job(F:Fix)(S0 S:St)(g:Gh)(w:World)(R:Nat->Blk)(Z:Blk)(U:Nat->List Value)(us:List Value)(i:Nat)(md:Md)(e:Ent):Prop:=
 match md with
 |.b=>∃id ls,e=⟨.one,[.bp id 0]⟩/\get S0.bx id=some ls/\(∀b,R i b\/Z b->F.R (DW ls) b)/\us[i]?=some (.pointer (some ⟨g.β id,0,none⟩))/\∀ls1,get S.bx id=some ls1->∀l∈ls1,l=.t .top|.m=>∀(c:Nat) l,e.cs[c]?=some l->∃z,(U i)[c]?=some z/\Place S g w l z|_=>True
theorem Job.sI{R:Nat->Blk}{Z:Blk}{U:Nat->List Value}{us:List Value}{i:Nat}{md:Md}{e:Ent}{N:Blk}{ok:CD->Prop}(h:Job F S0 S g w R Z U us i md e)(hC:K2 S S' g g' N ok)
 (hm:∀l∈e.cs,∀r,l.Bz=some r->¬ok r) (Y:∀id c,e=⟨.one,[.bp id 0]⟩->¬ok (.cell id c)):Job F S0 S' g' w R Z U us i md e:=by
 unfold Job at h ⊢;split at h
 .obtain⟨id,ls,G,J,L,O,X⟩:=h;refine⟨id,ls,G,J,L,by rw[hC.β];exact O,?_⟩;intro E q l B;obtain⟨j,I,k2⟩:=hC.bx id E q;obtain⟨c,H⟩:=Bh B;have y:c<j.length:=by rw[<-k2];exact(AP.1 H).1
  have:=hC.top (.cell id c) (Y id c G) (by simp[St.at,I,y,X j I j[c] (List.getElem_mem y)]);simp only[St.at,q,H,AD]at this;exact this
 .intro c l B;obtain⟨z,hz,hp⟩:=h c l B;exact⟨z,hz,hp.sI hC (hm l (Ap B))⟩
 .trivial
theorem AGP{R:Nat->Blk}{Z:Blk}{D:Nat->Nat->Blk}{U:Nat->List Value}{us:List Value}(I:∀p c q d b,D p c b->(p≠q\/c≠d)->¬D q d b) :
 ∀(ms:List Md) (es:List Ent) (outs:List (List T)) (i:Nat) (S S':St) (g:Gh),Inv F S g a w->Fk S0 S ms es outs=some S'->Oy w R Z D U us i ms outs ->
 (∀(k:Nat) md e,ms[k]?=some md->es[k]?=some e->Job F S0 S g w R Z U us (i+k) md e)->(∀(k:Nat) e,ms[k]?=some Md.m->es[k]?=some e->e.cs.Pairwise AUB) ->
 (∀(k G:Nat) md e y,ms[k]?=some md->es[k]?=some e->md.writes=true->es[G]?=some y->k≠G->shares e y=false) ->
 (∀p c b,i+1<=p->D p c b->EA F S g b)->∃g',Inv F S' g' a w/\K2 S S' g g' (fun b=>∃p c,i+1<=p/\D p c b) (fun _=>True)
 | [],es,outs,i,S,S',g,h,j,_,_,_,_,_=>by
  cases outs with
  |nil=>simp only[Fk,AD]at j;subst j;exact⟨g,h,K2.refl.mono (fun _ h=>h.elim) (fun _ _=>trivial)⟩|cons=>simp[Fk]at j
 |md::ms,[],outs,i,S,S',g,h,j,_,_,_,_,_=>by simp[Fk]at j|md::ms,e::es,outs,i,S,S',g,h,j,hO,hJ,hP,X,hL=>by
  have next:∀(S1:St) (g1:Gh) (N:Blk) (ok:CD->Prop) (os:List (List T)),Inv F S1 g1 a w->K2 S S1 g g1 N ok->Fk S0 S1 ms es os=some S'->Oy w R Z D U us (i+1) ms os ->
   (∀b,N b->∃c,D (i+1) c b)->(∀(G:Nat) y,es[G]?=some y->(∀l∈y.cs,∀r,l.Bz=some r->¬ok r)/\∀id c,y=⟨.one,[.bp id 0]⟩->¬ok (.cell id c)) ->
   ∃g',Inv F S' g' a w/\K2 S S' g g' (fun b=>∃p c,i+1<=p/\D p c b) (fun _=>True):=by
   intro S1 g1 N ok os h1 hC1 H hO1 hN hok;obtain⟨g2,h2,hC2⟩:=AGP I ms es os (i+1) S1 S' g1 h1 H hO1 (by
    intro k Y y hm J;have:=hJ (k+1) Y y (by simpa using hm) (by simpa using J);rw[show i+1+k=i+(k+1) by omega];exact this.sI hC1 (hok k y J).1 (hok k y J).2) (fun k y hm J=>hP (k+1) y (by simpa using hm) (by simpa using J))
    (fun k G Y e1 e2 hm J hw B hne=>X (k+1) (G+1) Y e1 e2 (by simpa using hm) (by simpa using J) hw (by simpa using B) (by omega)) (by
    intro p c b hp hD;refine(hL p c b (by omega) hD).sI hC1 ?_;intro hn;obtain⟨c',hD'⟩:=hN b hn;exact I p c (i+1) c' b hD (.inl (by omega)) hD')
   refine⟨g2,h2,(hC1.trans hC2).mono ?_ (fun _ _=>trivial)⟩;rintro b (j|⟨p,c,hp,hD⟩)
   .obtain⟨c,hD⟩:=hN b j;exact⟨i+1,c,Ad _,hD⟩
   .exact⟨p,c,by omega,hD⟩
  have pass:Oy w R Z D U us (i+1) ms outs->Fk S0 S ms es outs=some S'->∃g',Inv F S' g' a w/\K2 S S' g g' (fun b=>∃p c,i+1<=p/\D p c b) (fun _=>True):=
   fun hO1 H=>next S g _ _ outs h K2.refl H hO1 (fun _ h=>h.elim) (fun _ _ _=>⟨fun _ _ _ _ h=>h,fun _ _ _ h=>h⟩)
  have hj:=hJ 0 md e rfl rfl;cases md with
  |v=>exact pass hO (by simpa[Fk] using j)|p=>exact pass hO (by simpa[Fk] using j)|o=>exact pass hO (by simpa[Fk] using j)|b=>
   obtain⟨id,ls,rfl,h2,h3,h4,h5⟩:=hj;obtain⟨o,os,rfl,⟨blk,us',E,k1,k2,k3,k4⟩,hO1⟩:=hO;simp only[C3]at h3 h4;simp only[Fk]at j;split at j
   .rename_i ls0 ls1 h0 h1;rw[h2]at h0;cases h0;split at j
    .rename_i hlen;rw[h4]at k1;cases k1;obtain⟨⟨E',hE'⟩,_⟩:=h.bxs id ls1 h1;rw[hE']at k2;have hbv:g.bv id=us':=by
      have:=Option.some.inj k2;simp only[Obj.cells.injEq]at this;simpa using congrArg Array.toList this.1
     subst hbv;obtain⟨g1,q1,q2⟩:=h.AUx h1 (h5 ls1 h1) hlen ⟨k4.1,fun c x hx=>let ⟨z,hz,hV⟩:=k4.2 c x hx;⟨z,hz,hV.up h3⟩⟩;refine next _ g1 _ _ os q1 q2 j hO1 (fun _ h=>h.elim) ?_;intro G y B;have hs:=X 0 (G+1) .b _ y rfl rfl rfl (by simpa using B) (by omega);constructor
     .rintro l hl r hr ⟨c,rfl⟩;have:=(HL hs (l:=.bp id 0) (by simp) hl).2.1 id (by simp[names]);exact OC this hr
     .rintro id' c rfl ⟨c',hc'⟩;cases hc';have:=(HL hs (l:=.bp id 0) (l':=.bp id 0) (by simp) (by simp)).2.1 id (by simp[names]);simp[Fp,AT.Lw]at this
    .cases j
   .cases j
  |m=>
   obtain⟨o,os,rfl,k1,hO1⟩:=hO;simp only[Fk]at j;split at j
   .rename_i S1 hf;simp only[Job,C3]at hj;obtain⟨g1,q1,q2⟩:=Nz e.cs o (U i) (D (i+1)) S S1 g h hf hj k1.2 (fun c b hD=>hL (i+1) c b (Ad _) hD) (fun c d b hne hD=>I _ _ _ _ b hD (.inr hne)) (hP 0 e rfl rfl);refine next _ g1 _ _ os q1 q2 j hO1 (fun _ h=>h) ?_;intro G y B;have hs:=X 0 (G+1) .m e y rfl rfl rfl (by simpa using B) (by omega);constructor
    .rintro l hl r hr ⟨l0,L,O⟩;exact(HL hs L hl).1 r O hr
    .rintro id c rfl ⟨l0,L,O⟩;have:=(HL hs L (l':=.bp id 0) (by simp)).2.2 id (by simp[names]);exact OC this O
   .cases j
def Fix.Le(F F':Fix):Prop:=∃Z w1,F'=F.ext Z w1/\(∀b,F.K b->w1.heap[b]?=F.w0.heap[b]?)/\Still F.w0 w1/\∀b,Z b->¬F.K b
theorem Fix.Le.refl:F.Le F:=⟨fun _=>False,F.w0,by simp[Fix.ext],fun _ _=>rfl,.refl,fun _ h=>h.elim⟩
theorem Fix.Le.trans{F1 F2:Fix}(h:F.Le F1)(e:F1.Le F2):F.Le F2:=by
 obtain⟨Z1,w1,rfl,j,q,y⟩:=h;obtain⟨Z2,I,rfl,E,G,H⟩:=e;refine⟨fun b=>Z1 b\/Z2 b,I,?_,fun b c=>(E b (.inl c)).trans (j b c),q.trans G,?_⟩
 .simp only[Fix.ext]
  grind
 .rintro b (c|c)
  .exact y b c
  .exact fun B=>H b c (.inl B)
theorem Fix.Le.P{F1:Fix}(h:F.Le F1):F1.P=F.P/\F1.A=F.A/\F1.N=F.N/\F1.pv=F.pv/\F1.β0=F.β0:=by
 obtain⟨Z1,w1,rfl,_⟩:=h;exact⟨rfl,rfl,rfl,rfl,rfl⟩
theorem ACL{R:Nat->Blk}{Z:Blk}{D:Nat->Nat->Blk}{U:Nat->List Value}{us:List Value}:∀(ms:List Md) (i:Nat) (outs:List (List T)),Oy w' R Z D U us i ms outs->∀(k:Nat),ms[k]?=some Md.b ->
 ∃(blk:Nat) (c:List Value) (E:TypeId),us[i+k]?=some (.pointer (some ⟨blk,0,none⟩))/\w'.heap[blk]?=some (.cells c.toArray E (0,0))/\c.length=(U (i+k)).length
 | [],_,_,_,k,e=>by simp at e|md::ms,i,outs,h,k,e=>by
  have rcs:∀os,Oy w' R Z D U us (i+1) ms os->0<k->∃(blk:Nat) (c:List Value) (E:TypeId),us[i+k]?=some (.pointer (some ⟨blk,0,none⟩))/\w'.heap[blk]?=some (.cells c.toArray E (0,0))/\c.length=(U (i+k)).length:=by
   intro os j y;obtain⟨q,rfl⟩:∃q,k=q+1:=⟨k-1,by omega⟩;have:=ACL ms (i+1) os j q (by simpa using e);rw[show i+1+q=i+(q+1) by omega]at this;exact this
  by_cases y:k=0
  .subst y;simp only[AM,AD]at e;subst e;obtain⟨o,os,rfl,⟨blk,c,E,B,G,H,_⟩,_⟩:=h;exact⟨blk,c,E,B,G,H⟩
  .cases md with
   |b=>obtain⟨o,os,rfl,_,j⟩:=h;exact rcs os j (by omega)
   |m=>obtain⟨o,os,rfl,_,j⟩:=h;exact rcs os j (by omega)
   |v=>exact rcs outs h (by omega)|p=>exact rcs outs h (by omega)|o=>exact rcs outs h (by omega)
theorem lB{x:T}{v:Value}{fp:Blk}(h:Own w x v fp):Bt F S g w fp (Jt x) v:=by
 cases x with
 |sl e xs=>exact h|nil=>exact h|mp ks=>exact h|_=>cases h with|sc h _ _=>exact h
theorem Inv.AXx(h:Inv F S g a w){d lab blk:Nat}{E:TypeId}{us:List Value}{cs:List T}(hd:d<F.N)(X:QC S d (cs.map (EN lab))=some S')(I:w.heap[blk]?=some (.cells us.toArray E (0,0)))(hv:KF w (F.R lab) cs us)
 (j:EA F S g blk):∃g',Inv F S' g' (a.put (some d) (.pointer (some ⟨blk,0,none⟩))) w:=by
 unfold QC at X;split at X
 .cases X
 .rename_i hp;cases X;have hq:∀x,Mi d (.ow x)=false:=fun x=>rfl
  have hqt:Mi d (.t .top)=false:=rfl;have hk:=h.kill (Mi d) hq
  let S1:=S.kill (Mi d)
  have Y:∀r,CG S1 r->CG S r:=by
   rintro r ⟨x,H⟩;have O:(S.kill (Mi d)).at r=some (.ow x):=H;rw[Ha,AO]at O;obtain⟨l,j,G⟩:=O;split at G
   .cases G
   .subst G;exact⟨x,j⟩
  have hsome:∀id,(get S1.bx id).isSome->(get S.bx id).isSome:=by
   intro id hid;have J:(get (S.kill (Mi d)).bx id).isSome:=hid;simpa only[St.kill,DL,Option.isSome_map] using J
  have hfree:∀r l,S1.at r=some l->Mi d l=false:=fun r l j=>LW (Mi d) hqt j
  have L:∀l,Mi d l=false->d∉names l/\∀c,l.Bz≠some (.cell d c):=by
   intro l j;simp only[Mi,Eu]at j;exact⟨Zi j.2,fun c=>OC j.2⟩
  have hI:=hk.AJW (w':=w) (d:=d) (blk:=blk) (E:=E) (vs:=us) (ls:=cs.map (EN lab)) (nf:=fun _ _=>False) Still.refl (fun _ _ _=>rfl) I j.1 (fun r hr=>j.2.1 r (Y r hr)) (fun id _ hs Z=>j.2.2 id (hsome id hs) Z.symm)
   (.inr ⟨fun r l j _=>(L l (hfree r l j)).1,fun l q=>by
    obtain⟨x,_,rfl⟩:=D2.1 q;cases x<;>simp[EN,names]⟩) (by
   rintro l (q|⟨r,hr,_⟩) c x hroot _
   .obtain⟨y,_,rfl⟩:=D2.1 q;cases y<;>simp[EN,AT.Bz]at hroot
   .exact absurd hroot ((L l (hfree r l hr)).2 c)) (by simpa using hv.1) (by
   intro c l q;rw[A2,AO]at q;obtain⟨x,H,rfl⟩:=q;obtain⟨z,hz,hV⟩:=hv.2 c x H;exact⟨z,hz,P8 hV⟩) (by
   intro c x H;rw[A2,AO]at H;obtain⟨y,_,hy⟩:=H;exact absurd hy TC) (fun hp'=>absurd hp' hp)
  have B:∀{l},Mi d l=false->Fp d l=false/\E1 d l=false:=by
   intro l j;simp only[Mi,Eu]at j;exact⟨j.2,j.1⟩
  refine⟨_,hI.put (d:=d) (e:=⟨.one,[.bp d 0]⟩) (vs:=[.pointer (some ⟨blk,0,none⟩)]) (nf:=fun _ _=>False) hd hp ?_ ?_ ?_⟩
  .intro r l j _;rw[M7]at j;cases r with
   |tmp s c=>exact(B (hfree _ _ j)).2|cell b c=>
    simp only at j;split at j
    .rw[A2,AO]at j;obtain⟨y,_,rfl⟩:=j;cases y<;>simp[EN,E1,AT.Bz]
    .exact(B (hfree _ _ j)).2
  .simp[E1,AT.Bz]
  .refine Cells.free rfl ?_ (by simp);intro c l j;cases c with|zero=>simp only[AM,AD]at j;subst j;exact⟨_,rfl,by show _=_;simp[Gh.F3]⟩|succ c=>simp at j
theorem EA.fresh(h:Inv F S g a w){b:Nat}(H:w.heap.size<=b):EA F S g b:=by
 refine⟨fun y=>?_,fun r B q=>?_,fun id c I=>?_⟩
 .have:=h.rlt b y;have:=h.size;omega
 .obtain⟨x,G⟩:=B;obtain⟨v,_,j⟩:=h.Cq r _ G;have:=Own.lt j b q;omega
 .obtain⟨ls,e⟩:=Bj.1 c;obtain⟨⟨E,hE⟩,_⟩:=h.bxs id ls e;have:=(A1.1 hE).1;omega
set_option maxHeartbeats 1000000 in
theorem AUZ(h:Inv F S g a w){d:Nat}{f:CI}{es:List Ent}{us:List Value}{vs:List V}{sh:Sh}{cs:List T}{outs:List (List T)}(hd:d<F.N)(hrd:∀(i:Nat) e,es[i]?=some e->∃u,us[i]?=some u/\Rd F S g w e u)(hlen:us.length=es.length)
 (hpre:pre f es S=some (S1,vs)) (hpost:post d f es S S1 sh cs outs=some S2) {n:Nat} (hct:∀R G U,MW F.A F.P w R G U (Ef f) vs us ->
  Calls F.P n us.toArray w fun e w'=>∃v Z D,e=.returned v/\nA w w' R G U (Ef f) us sh cs outs v Z D) :
 Calls F.P n us.toArray w fun e w'=>∃v F' g',e=.returned v/\F.Le F'/\Inv F' S2 g' (a.put (some d) v) w'/\∀b,b<w.heap.size->¬nW S g (Ef f) es b->w'.heap[b]?=w.heap[b]?:=by
 unfold pre at hpre;split at hpre
 .cases hpre
 .rename_i hcl;have hcl':Pd [] (Ef f) es=false:=by simpa using hcl
  obtain⟨R,G,U,g1,hT,hA,hLs,hB,hGC,hel⟩:=AUP h hrd hlen hcl' hpre;have hclash:=Yf hcl' hel;refine(hct R G U hA).mono ?_;rintro e w' ⟨v,Z,D,rfl,hK⟩;have h1:=hT.inv;have hes:∀{i:Nat} {md:Md},(Ef f)[i]?=some md->∃e,es[i]?=some e:=by
   intro i md L;have:i<(Ef f).length:=(AP.1 L).1;exact⟨es[i]'(by omega),by simp[hel,this]⟩
  have hG:∀{i c b},G i c b->∃md e,(Ef f)[i]?=some md/\es[i]?=some e/\((md.E2=true/\EA F S1 g1 b)\/(md=.b/\∃id,e=⟨.one,[.bp id 0]⟩/\(get S.bx id).isSome/\b=g.β id)):=by
   intro i c b J;have hi:=hA.out i c b J;have L:(Ef f)[i]?=some (Ef f)[i]:=by simp[hi]
   obtain⟨e,X⟩:=hes L;refine⟨_,e,L,X,?_⟩;by_cases ht:((Ef f)[i]).E2=true
   .exact .inl ⟨ht,hLs i c b _ L ht J⟩
   .have H:=(hB i _ e L X).1;obtain⟨j,md,e',k1,k2,k3,k4⟩:=hGC i c b J;have hmd:(Ef f)[i]=.b:=by
     have I:=hA.arg i _ (vs[i]'(by rw[hA.Ka];exact hi)) (us[i]'(by rw[hA.lC];exact hi)) L (by simp[hA.Ka,hi]) (by simp[hA.lC,hi]);generalize (Ef f)[i]=md at *;cases md with
     |v=>
      unfold Z8 at I;split at I<;>first|exact absurd J (I.2.2 c b)|exact absurd J (I.2 c b)|(rename_i h1 _;cases h1)|exact I.elim
     |p=>
      unfold Z8 at I;split at I<;>first|exact absurd J (I.2 c b)|(rename_i h1 _;cases h1)|exact I.elim
     |b=>rfl|o=>simp[Md.E2]at ht|m=>simp[Md.E2]at ht
    rw[hmd]at H;obtain⟨id,ls,q1,q2,q3,q4,q5,q6,q7⟩:=H;exact .inr ⟨hmd,id,q1,by simp[q2],((q5 c b).1 J).2⟩
  have hbxs:∀id,(get S1.bx id).isSome->(get S.bx id).isSome:=hT.bx;have hGK:∀{i c b},G i c b->¬F.K b:=by
   intro i c b J hk;obtain⟨md,e,_,_,⟨_,O⟩|⟨_,id,_,hs,rfl⟩⟩:=hG J
   .exact O.1 hk
   .exact h.bxR id hs hk
  have hGal:∀{i c b r},G i c b->CG S1 r->¬g1.fp r b:=by
   intro i c b r J hr hf;obtain⟨md,e,_,_,⟨_,O⟩|⟨_,id,_,hs,rfl⟩⟩:=hG J
   .exact O.2.1 r hr hf
   .exact h.FR r id (hT.al r hr) hs (hT.fp r _ hf)
  let B:Nat->Prop:=fun id=>∃i:Nat,(Ef f)[i]?=some .b/\es[i]?=some ⟨.one,[.bp id 0]⟩
  have hnew:∀id,B id->∃us':List Value,(∃E,w'.heap[g1.β id]?=some (.cells us'.toArray E (0,0)))/\us'.length=(g1.bv id).length:=by
   rintro id ⟨i,L,X⟩;obtain⟨id',ls,q1,q2,q3,q4,q5,q6,q7⟩:=(hB i _ _ L X).1;cases q1;obtain⟨blk,us',E,k1,k2,k3⟩:=ACL (Ef f) 0 outs hK.outs i L;rw[Au,q6]at k1;rw[Au]at k3;cases k1;exact⟨us',⟨E,by rw[hT.β];exact k2⟩,by rw[k3,q4,hT.bv]⟩
  obtain⟨nb,hnb⟩:∃nb:Nat->List Value,(∀id,B id->(∃E,w'.heap[g1.β id]?=some (.cells (nb id).toArray E (0,0)))/\(nb id).length=(g1.bv id).length)/\∀id,¬B id->nb id=g1.bv id:=by
   classical
   refine⟨fun id=>if H:B id then (hnew id H).choose else g1.bv id,fun id H=>?_,fun id H=>by simp[H]⟩;simp only[H,dif_pos];exact(hnew id H).choose_spec
  have h2:Inv F S1 { g1 with bv:=nb} a w':=by
   refine h1.called (B:=B) hK.still ?_ ?_ hnb.2
   .intro b H hc;refine hK.frame b H ?_;intro i c J;rcases hc with hc|⟨r,hr,hc⟩|⟨id,hid,hnB,rfl⟩
    .exact hGK J hc
    .exact hGal J hr hc
    .obtain⟨md,e,L,X,⟨_,O⟩|⟨rfl,id',rfl,hs,heq⟩⟩:=hG J
     .exact O.2.2 id hid rfl
     .rw[hT.β]at heq;have:=h.GM id id' (hbxs id hid) hs heq;subst this;exact hnB ⟨i,L,X⟩
   .rintro id ls ⟨i,L,X⟩ hls;obtain⟨id',ls',q1,q2,q3,q4,q5,q6,q7⟩:=(hB i _ _ L X).1;cases q1;obtain⟨⟨E,hE⟩,O⟩:=hnb.1 id ⟨i,L,X⟩;exact⟨q7 ls hls,E,hE,O⟩
  have hSp:∀b,nc w (Ef f) G b->EA F S1 g1 b:=by
   rintro b (hf|⟨j,d',md,L,ht,J⟩)
   .exact EA.fresh h1 hf
   .exact hLs j d' b md L ht J
  have hZf:∀b,Z b->EA F S1 { g1 with bv:=nb} b:=by
   intro b hz;have:=hSp b (hK.z b hz).1;exact⟨this.1,this.2.1,this.2.2⟩
  have h3:Inv (F.ext Z w') S1 { g1 with bv:=nb} a w':=h2.ext fun b hz=>⟨(hK.z b hz).2,(hZf b hz).2.1,(hZf b hz).2.2⟩
  have hrv:∀r,(∀c id,r=.cell id c->¬B id)->({ g1 with bv:=nb}:Gh).rv r=g.rv r:=by
   intro r hr;rw[<-hT.rv r];cases r with
   |tmp s c=>rfl|cell id c=>simp[Gh.rv,hnb.2 id (hr c id rfl)]
  have hDL:∀p c b,D p c b->EA (F.ext Z w') S1 { g1 with bv:=nb} b:=by
   intro p c b hd';have hz:=hK.dz p c b hd';have hL:EA F S1 g1 b:=hSp b (hK.df p c b hd');exact⟨fun hk=>hk.elim hL.1 hz,hL.2.1,hL.2.2⟩
  unfold post at hpost;split at hpost
  .rename_i S3 hback;obtain⟨g3,h4,hC⟩:=AGP (F:=F.ext Z w') (S0:=S) hK.dd (Ef f) es outs 0 S1 S3 _ h3 hback hK.outs (by
    intro k md e L X;rw[Au];obtain⟨hb1,hb2⟩:=hB k md e L X;cases md with
    |b=>
     obtain⟨id,ls,q1,q2,q3,q4,q5,q6,q7⟩:=hb1;exact⟨id,ls,q1,q2,fun b H=>H.imp (fun H=>by rw[q3]at H;exact H) (fun h=>h),by rw[q6];simp[hT.β],q7⟩
    |m=>
     obtain⟨q1,q2,q3⟩:=hb1;intro c l O;obtain⟨p1,z,p2,p3,p4,p5⟩:=q3 c l O;refine⟨z,p2,?_⟩;have hnoB:∀r,l.Bz=some r->∀c id,r=.cell id c->¬B id:=by
      rintro r hr c' id rfl ⟨i,hm',he'⟩;have hne:k≠i:=by rintro rfl;rw[L]at hm';cases hm'
      have hsh:=(hclash k .m e L X rfl).2 i _ he' hne;have:=(HL hsh (Ap O) (l':=.bp id 0) (by simp)).2.2 id (by simp[names]);exact OC this hr
     unfold RF at p1;split at p1
     .trivial
     .rename_i r;obtain⟨x,u,k1,k2,k3⟩:=p3;have k3':z=u:=k3;exact⟨p4 r none rfl,by rw[hrv r (hnoB r rfl),k2,k3']⟩
     .rename_i r q e' xs';obtain⟨i',j'⟩:=q;obtain⟨hal,_,e0,rows,blk,off,len,cap,k1,k2,k3,k4,k5⟩:=p3;have hal1:=p5 r (i',j') e' xs' rfl;obtain⟨x1,hx1⟩:=hal1;obtain⟨x0,hx0,hlk⟩:=hT.AB7 r x1 hx1;rw[k1]at hx0;cases hx0;obtain⟨u1,hu1,hO1⟩:=h1.Cq r _ hx1;rw[hT.rv r,k2]at hu1;cases hu1;have hfp:g1.fp r blk:=by
       have hO:Own w x1 (.slice (some ⟨blk,off,none⟩) len cap) (g1.fp r):=hO1;rcases hlk with rfl|⟨e2,l1,l2,hh1,rfl,_⟩
       .cases hO with|sc hh _ _=>exact hh.elim|sl c f p1 p2 p3 p4 p5 p6 p7 p8 p9 p10=>exact(p10 _).2 (.inl rfl)
       .cases hO with|sc hh _ _=>exact hh.elim|sl c f p1 p2 p3 p4 p5 p6 p7 p8 p9 p10=>exact(p10 _).2 (.inl rfl)
      have hblt:blk<w.heap.size:=Own.lt hO1 blk hfp;have hsame:=hK.frame blk hblt fun i c J=>hGal J ⟨x1,hx1⟩ hfp
      have hrows:∀row∈rows,row.length=e0:=by
       obtain⟨u0,hu0,hO0⟩:=h.Cq r _ k1;have hO:Own w (.sl e0 rows) u0 (g.fp r):=hO0;cases hO with
       |sc hh _ _=>exact hh.elim|nl=>simp|sl c f p1 p2 p3=>exact p3
      refine⟨e0,rows.length,blk,off,len,cap,by rw[hrv r (hnoB r rfl)];exact k2,(LO hsame).trans k5,sA k3,OT k3 hrows,?_⟩;intro e1 rows1 hr1;obtain⟨x2,hx2,hlk2⟩:=hT.AB7 r _ hr1;rw[k1]at hx2;cases hx2;rcases hlk2 with hh|⟨e3,l1,l2,hh1,hh2,hh3⟩
      .cases hh;exact⟨rfl,rfl⟩
      .cases hh1;cases hh2;exact⟨rfl,hh3⟩
     .cases p1
    |_=>trivial) (by
    intro k e L X;exact(hB k .m e L X).1.2.1) (fun k k' md e e' L X hw he' hne=>(hclash k md e L X hw).2 k' e' he' hne) (fun p c b _ hd'=>hDL p c b hd')
   have hLD0:∀c b,D 0 c b->EA (F.ext Z w') S3 g3 b:=by
    intro c b hd';refine(hDL 0 c b hd').sI hC ?_;rintro⟨p,c',hp,hd''⟩;exact hK.dd 0 c p c' b hd' (.inl (by omega)) hd''
   have hLe:F.Le (F.ext Z w'):=⟨Z,w',rfl,fun b H=>((hK.frame b (BR (h.rlt b H) h.size) fun i c J=>hGK J H).trans (h.FV b H)),h.still.trans hK.still,fun b hz=>(hZf b hz).1⟩;have hfr:∀b,b<w.heap.size->¬nW S g (Ef f) es b->w'.heap[b]?=w.heap[b]?:=fun b H hn=>hK.frame b H fun i c J=>hn (hGC i c b J)
   have hlab:∀{k lab b},kx f S es k=some lab->R k b\/Z b->(F.ext Z w').R lab b:=by
    intro k lab b O H;unfold kx at O;split at O
    .rename_i e X;split at O
     .cases O
     .rename_i hnp;refine H.imp (fun H=>?_) id;have hk:k<(Ef f).length:=by rw[<-hel];exact(AP.1 X).1
      refine(hB k (Ef f)[k] e (by simp[hk]) X).2 ?_ lab O b H;intro hp;exact hnp (by simp[hk,hp])
    .cases O
   have owned:S3.D9 d (AYQ sh cs)=some S2->(∃us,v=mkV sh us/\xx w' (D 0) cs us)->∃v' F' g',Ending.returned v=.returned v'/\F.Le F'/\Inv F' S2 g' (a.put (some d) v') w'/\∀b,b<w.heap.size->¬nW S g (Ef f) es b->w'.heap[b]?=w.heap[b]?:=by
    rintro hp ⟨us',rfl,ho1,ho2⟩;have hcl':Cells (F.ext Z w') S3 g3 w' (cs.map Jt) us' (D 0):=by
     refine⟨by simpa using ho1,?_,?_⟩
     .intro c l O;rw[A2,AO]at O;obtain⟨x,hx,rfl⟩:=O;obtain⟨z,hz,hO⟩:=ho2 c x hx;exact⟨z,hz,lB hO⟩
     .intro c x hx;refine⟨fun b H=>(hLD0 c b H).1,fun r hr b H=>(hLD0 c b H).2.1 r hr,fun id hid H=>(hLD0 c _ H).2.2 id hid rfl,fun c' x' _ hne b H=>hK.dd 0 c 0 c' b H (.inr hne)⟩
    obtain⟨g',J⟩:=h4.D9 hp hd hcl';exact⟨_,_,g',rfl,hLe,J,hfr⟩
   have Y:=hK.res;cases sh with
   |one=>exact owned hpost Y|agg=>exact owned hpost Y|tup ns=>exact owned hpost Y|ptr k=>
    simp only at hpost;split at hpost
    .rename_i lab O;obtain⟨blk,us',E,rfl,q2,q3,q4,q5,q6⟩:=Y;have hLb:EA (F.ext Z w') S3 g3 blk:=by
      have h0:EA (F.ext Z w') S1 { g1 with bv:=nb} blk:=by
       have:=hSp blk q4;exact⟨fun hk=>hk.elim this.1 q5,this.2.1,this.2.2⟩
      refine h0.sI hC ?_;rintro⟨p,c',hp,hd''⟩;exact q6 p c' hd''
     obtain⟨g',J⟩:=h4.AXx hd hpost q2 ⟨q3.1,fun c x hx=>let ⟨z,hz,hV⟩:=q3.2 c x hx;⟨z,hz,hV.up fun b H=>hlab O H⟩⟩ hLb;exact⟨_,_,g',rfl,hLe,J,hfr⟩
    .cases hpost
   |vw k=>
    simp only at hpost;split at hpost
    .rename_i lab O;obtain⟨x,rfl,hV⟩:=Y;obtain⟨g',J⟩:=QM h4 hd (by simpa using hpost) (fun y=>TC) (P8 (hV.up fun b H=>hlab O H));exact⟨_,_,g',rfl,hLe,J,hfr⟩
    .cases hpost
  .cases hpost
end
section
variable{F:Fix}{S S':St}{g g':Gh}{a a':Act}{w w':World}
theorem Inv.AYh(h:Inv F S g a w){r r':CD}{x:T}{v:Value}(hr:S.at r=some (.t .top))(hv:g.rv r=some v)(hx:S.at r'=some (.ow x))(Y:g.rv r'=some v) :
 Inv F (S.Bi r (.al r' none)) g a w:=by
 have j:∀q,(S.Bi r (.al r' none)).at q=if q=r then some (.al r' none) else S.at q:=fun q=>Ei hr _ q
 have hdead:¬CG S r:=by rintro⟨y,B⟩;rw[hr]at B;cases B
 have e:∀q,CG (S.Bi r (.al r' none)) q->CG S q:=by
  rintro q ⟨y,B⟩;rw[j]at B;split at B
  .cases B
  .exact⟨y,B⟩
 have I:r'≠r:=by rintro rfl;exact hdead ⟨x,hx⟩
 have hsome:∀id,(get (S.Bi r (.al r' none)).bx id).isSome=(get S.bx id).isSome:=fun id=>Dd
 refine { Cq:=?_,tms:=?_,bxs:=?_,dis:=fun E r2 c G=>h.dis E r2 (e _ c) (e _ G),FR:=fun E id c hid=>h.FR E id (e _ c) (by rwa[<-hsome]),Gu:=fun E c=>h.Gu E (e _ c),GM:=fun id Z c G=>h.GM id Z (by rwa[<-hsome]) (by rwa[<-hsome]),bxR:=fun id c=>h.bxR id (by rwa[<-hsome]),FV:=h.FV,rlt:=h.rlt,still:=h.still,defs:=h.defs,tsz:=h.tsz,pin:=?_}
 .intro q l H;rw[j]at H;split at H
  .rename_i O;subst O;cases H;exact⟨v,hv,x,v,by rw[j,AU I];exact hx,Y,rfl⟩
  .obtain⟨u,hu,L⟩:=h.Cq q l H;refine⟨u,hu,L.tr ?_ (fun _ _=>rfl) (fun _ _=>rfl) (fun _ _=>rfl)⟩;intro E X;have J:E≠r:=by rintro rfl;exact hdead (L.alive X)
   exact⟨by rw[j,AU J],rfl,fun _ hb=>hb,fun _ _=>rfl⟩
 .intro s e' he;obtain⟨e0,c,G,h3⟩:=Lk he;obtain⟨p1,p2,p3⟩:=h.tms s e0 c;exact⟨p1,by rw[p2,G],by rw[p3,h3]⟩
 .intro id ls' H;obtain⟨l0,c,G⟩:=Iz H;obtain⟨p1,p2⟩:=h.bxs id l0 c;exact⟨p1,by rw[p2,G]⟩
 .intro p hp;rw[G8]at hp;obtain⟨p1,p2⟩:=h.pin p hp;exact⟨p1,fun hs=>p2 (by rwa[<-hsome])⟩
theorem AVM(h:Inv F S g a w)(r:CD):∃g',Inv F (S.turn r) g' a w:=by
 unfold St.turn;split
 case h_2=>exact⟨g,h⟩
 rename_i r' J;split
 case h_2=>exact⟨g,h⟩
 rename_i x c;obtain⟨v,O,y,u,q1,X,L⟩:=h.Cq r _ J;have L:v=u:=L;subst L;obtain⟨v',j,hO⟩:=h.Cq r' _ c;rw[X]at j;cases j;have hO:Own w x v (g.fp r'):=hO;have Z:=h.out c;have e:r≠r':=by rintro rfl;rw[J]at c;cases c
 have H:(S.out r').at r=some (.t .top):=by
  rw[St.out,Ha,Ei c,AU e,J];simp[LZ,AT.Bz]
 have I:(S.out r').at r'=some (.t .top):=Xj c;have hL:∀b,g.fp r' b->EA F (S.out r') g b:=by
  intro b B;refine⟨h.Gu r' ⟨x,c⟩ b B,fun q hq G=>?_,fun id E he=>?_⟩
  .obtain⟨n1,Y⟩:=IW c hq;exact h.dis q r' Y ⟨x,c⟩ n1 b G B
  .exact h.FR r' id ⟨x,c⟩ (VR E) (he▸B)
 obtain⟨h2,hC⟩:=Z.ABh H O hO hL;refine⟨_,h2.AYh (r:=r') (r':=r) (x:=x) (v:=v) ?_ (by rw[hC.rv];exact X) ?_ (by rw[hC.rv];exact O)⟩
 .rw[Ei H,AU (Ne.symm e)];exact I
 .rw[Ei H,AX rfl]
theorem AVL(h:Inv F S g a w)(r:CD)(e:Nat):∃g',Inv F (S.Zj r e) g' a w:=by
 unfold St.Zj;split
 .exact AVM h r
 split
 case h_2=>exact⟨g,h⟩
 rename_i hx;have X:=Ei hx (S.nl0 r e);have hdead:¬CG S r:=by rintro⟨x,G⟩;rw[hx]at G;cases G
 let g':Gh:={ g with fp:=fun r'=>if r'=r then fun _=>False else g.fp r'}
 have j:g'.fp r=fun _=>False:=by simp[g']
 have c:∀r',r'≠r->g'.fp r'=g.fp r':=fun r' E=>by simp[g',E]
 have H:∀r',CG (S.Bi r (S.nl0 r e)) r'->r'=r\/(r'≠r/\CG S r'):=by
  rintro r' ⟨x,G⟩;by_cases hr:r'=r
  .exact .inl hr
  .rw[X,AU hr]at G;exact .inr ⟨hr,x,G⟩
 refine⟨g',{ Cq:=?_,tms:=?_,bxs:=?_,dis:=?_,FR:=?_,Gu:=?_,GM:=?_,bxR:=?_,FV:=h.FV,rlt:=h.rlt,still:=h.still,defs:=h.defs,tsz:=h.tsz,pin:=?_}⟩
 .intro r' l Y;rw[X]at Y;split at Y
  .subst_vars
   cases Y;obtain⟨v,hv,J⟩:=h.Cq _ _ hx;have hv0:v=.slice none 0 0:=J;subst hv0;refine⟨_,hv,?_⟩;rw[j];unfold St.nl0;split
   .split
    .exact View.nl
    .exact Own.nl (by simp)
   .exact Own.nl (by simp)
  .rename_i E;obtain⟨v,hv,J⟩:=h.Cq r' l Y;refine⟨v,hv,?_⟩;rw[c r' E];refine J.tr ?_ (fun _ _=>rfl) (fun _ _=>rfl) (fun _ _=>rfl);intro y hr1;have L:y≠r:=by rintro rfl;exact hdead (J.alive hr1)
   exact⟨by rw[X,AU L],rfl,fun b q=>by rw[c y L];exact q,fun _ _=>rfl⟩
 .intro s e' he;obtain⟨e0,B,O,h3⟩:=Lk he;obtain⟨p1,p2,p3⟩:=h.tms s e0 B;exact⟨p1,by rw[p2,O],by rw[p3,h3]⟩
 .intro id ls' Y;obtain⟨l0,B,O⟩:=Iz Y;obtain⟨p1,p2⟩:=h.bxs id l0 B;exact⟨p1,by rw[p2,O]⟩
 .intro y r2 B O E b q I;rcases H y B with rfl|⟨n1,Z⟩
  .rw[j]at q;exact q
  .rcases H r2 O with rfl|⟨n2,a2⟩
   .rw[j]at I;exact I
   .rw[c y n1]at q;rw[c r2 n2]at I;exact h.dis y r2 Z a2 E b q I
 .intro y id B hid q;rcases H y B with rfl|⟨n1,Z⟩
  .rw[j]at q;exact q
  .rw[c y n1]at q;exact h.FR y id Z (by rwa[Dd]at hid) q
 .intro y B b q;rcases H y B with rfl|⟨n1,Z⟩
  .rw[j]at q;exact q.elim
  .rw[c y n1]at q;exact h.Gu y Z b q
 .intro id id' B O;exact h.GM id id' (by rwa[Dd]at B) (by rwa[Dd]at O)
 .intro id B;exact h.bxR id (by rwa[Dd]at B)
 .intro p hp;rw[G8]at hp;obtain⟨p1,p2⟩:=h.pin p hp;exact⟨p1,fun hs=>p2 (by rwa[Dd]at hs)⟩
theorem AJM(h:Inv F S g a w):∀ns:List (CD×Nat),∃g',Inv F (S.RA ns) g' a w:=by
 intro ns
 induction ns generalizing S g with
 |nil=>exact⟨g,h⟩|cons x ns j=>
  obtain⟨r,e⟩:=x;obtain⟨g',c⟩:=AVL h r e;exact j c
end
def Oper.Rz(P:Program)(o:Oper)(a:Act)(w:World)(K:Act->World->Prop):Prop:=
 match (execOp a.eval o).run P w with
 |.ok (.value v) w'=>K (a.put o.dst v) w'|.ok .skip w'=>K (a.put o.dst undef) w'|.ok (.enter f args) w'=>Calls P f args w' fun e w''=>∃v,e=.returned v/\K (a.put o.dst v) w''|_=>False
theorem Oper.Rz.wp{P:Program}{o:Oper}{a:Act}{w:World}{K:Act->World->Prop}{Q:Exit->Act->World->Prop}(h:Oper.Rz P o a w K):o.wp P a w K Q:=by
 unfold Oper.Rz at h;unfold Oper.wp;split at h
 .rename_i c;rw[c];exact h
 .rename_i c;rw[c];exact h
 .rename_i f args w' c;rw[c];exact h.mono fun e y ⟨v,j,q⟩=>by subst j;exact q
 .exact h.elim
theorem Oper.Rz.mono{P:Program}{o:Oper}{a:Act}{w:World}{K K':Act->World->Prop}(h:Oper.Rz P o a w K)(c:∀a w,K a w->K' a w):Oper.Rz P o a w K':=by
 unfold Oper.Rz at h ⊢;split at h
 .exact c _ _ h
 .exact c _ _ h
 .exact h.mono fun e q ⟨v,j,h⟩=>⟨v,j,c _ _ h⟩
 .exact h.elim
structure PV(A:Nat->Nat->List Md->Prop)(P:Program):Prop where
 there:∀n id ms,A n id ms->∃fn,P.funcs[n]?=some fn/\fn.body.isNone=false/\(fn.name == "runtime.NumGoroutine")=false
 ct:∀n id ms vs sh cs outs,A n id ms->UR id vs sh cs outs->∀w R G U us,MW A P w R G U ms vs us ->
  Calls P n us.toArray w fun e w'=>∃v Z D,e=.returned v/\nA w w' R G U ms us sh cs outs v Z D
theorem Mt.there{A:Nat->Nat->List Md->Prop}{P:Program}(hA:PV A P){n:Nat}{f:CI}(h:Mt A P n f):∃fn,P.funcs[n]?=some fn/\fn.body.isNone=false/\(fn.name == "runtime.NumGoroutine")=false:=by
 cases h with
 |Mj h=>exact hA.there _ _ _ h|mk c e j q=>
  refine⟨_,c,by simp[e],?_⟩;cases f with
  |mk ms rs body=>
   grind[Y3]
  |Mj=>simp[Y3]at j
section
variable{F:Fix}{S S' S1 S2:St}{g g' g1:Gh}{a a':Act}{w w':World}
theorem AFm{l:AT}{v:Value}(h:FJ F g w l v):Bt F S g w (fun _=>False) l v/\∀x,l≠.ow x:=by
 match l,h with
 |.t _,h=>exact⟨h,by simp⟩|.und,h=>exact⟨h,by simp⟩|.vw (.old _) _ _,h=>exact⟨h,by simp⟩|.vp (.old _) _,h=>exact⟨h,by simp⟩|.bp _ _,h=>exact⟨h,by simp⟩
theorem rG{P:Program}{n:Nat}{fn:Func}{args:Array Value}(c:P.funcs[n]?=some fn)(e:fn.body.isNone=false) (h:(fn.name == "runtime.NumGoroutine")=false):(callFunc n args).run P w=.ok (.enter n args) w:=by
 have j:(program).run P w=.ok P w:=rfl
 grind[callFunc,Sem.run_bind,Result.andThen,Bool.false_eq_true,Sem.run_pure]
theorem AJ2(hA:PV F.A F.P)(h:Inv F S g a w){o:Oper}{x:XOp}{d:Nat}{f:CI}{es:List Ent}(j:VQ F.P F.N o.dst o.op x=true)(hm:∀p∈EC o.op x,Mt F.A F.P p.1 p.2)(y:Ft x S=some (d,f,es)) :
 ∃(n:Nat) (us:List Value),(execOp a.eval o).run F.P w=.ok (.enter n us.toArray) w/\Mt F.A F.P n f/\us.length=es.length/\(∀(i:Nat) e,es[i]?=some e->∃u,us[i]?=some u/\Rd F S g w e u)/\o.dst=some d/\d<F.N:=by
 obtain⟨dst,op,ty,pos,after,guard⟩:=o;dsimp only at j hm ⊢;simp only[VQ,AF]at j;obtain⟨G,j⟩:=j;cases x with
 |call Y f' args'=>
  simp only[Ft]at y;split at y
  .rename_i q H;simp only[AD,A0]at y;obtain⟨rfl,rfl,rfl⟩:=y;obtain⟨rfl,hd⟩:=DH G rfl;split at j
   all_goals try (rename_i B;cases B;done)
   all_goals try (cases j;done)
   rename_i fn args ats d2 g2 args2 B;cases B;have Z:Mt F.A F.P fn f':=hm (fn,f') (by unfold EC;simp);obtain⟨fnd,k1,k2,k3⟩:=Mt.there hA Z;obtain⟨X,r2⟩:=AFr h H j (fun p L=>hm p (by unfold EC;simp[L]));refine⟨fn,args.toList.map a.eval,?_,Z,by simp[X],?_,rfl,hd⟩
   .have O:=rG (w:=w) (args:=args.map a.eval) k1 k2 k3;have E:(args.toList.map a.eval).toArray=args.map a.eval:=B2.1 (by simp);rw[E];have hev:a.eval (.func fn)=.func (.func fn) #[] #[]:=rfl;simp only[execOp,resolve,hev,Deferred.ofValue,Ak,Az,Ao,invoke,JM,Array.append_empty,O]
   .intro i e E;obtain⟨o',J,O⟩:=r2 i e E;exact⟨a.eval o',by simp[J],O⟩
  .cases y
 |D5 Y x' ms args'=>
  simp only[Ft]at y;split at y
  .rename_i f' caps q hone H;split at y
   .rename_i hms;simp only[AD,A0]at y;obtain⟨rfl,rfl,rfl⟩:=y;obtain⟨rfl,hd⟩:=DH G rfl;have key:∀(fo:Operand) (args:Array Operand) (ats:Array TypeId),op=.call { callee:=.value fo,args:=args,argTypes:=ats}->B9 fo x'=true->PI args.toList args'=true->(∀p∈CF fo x'++Ed args.toList args',Mt F.A F.P p.1 p.2) ->
     ∃(n:Nat) (us:List Value),(execOp a.eval { dst:=some Y,op:=op,type:=ty,pos:=pos,after:=after,guard:=guard}).run F.P w=.ok (.enter n us.toArray) w/\Mt F.A F.P n f'/\us.length=(q++caps.map fun l=>(⟨.one,[l]⟩:Ent)).length /\
      (∀(i:Nat) e,(q++caps.map fun l=>(⟨.one,[l]⟩:Ent))[i]?=some e->∃u,us[i]?=some u/\Rd F S g w e u)/\some Y=some Y/\Y<F.N:=by
     rintro fo args ats rfl h1 h2 h3;obtain⟨⟨n,cv,q1,q2,q3,q4⟩,_⟩:=Hp h hone h1 (fun p L=>h3 p (by simp[L]));obtain⟨fnd,k1,k2,k3⟩:=Mt.there hA q2;obtain⟨X,r2⟩:=AFr h H h2 (fun p L=>h3 p (by simp[L]));refine⟨n,args.toList.map a.eval++cv.toList,?_,q2,by simp[X,q3],?_,rfl,hd⟩
     .have O:=rG (w:=w) (args:=args.map a.eval++cv) k1 k2 k3;have E:(args.toList.map a.eval++cv.toList).toArray=args.map a.eval++cv:=B2.1 (by simp);rw[E];simp only[execOp,resolve,q1,Deferred.ofValue,Ak,Az,Ao,invoke,JM,O]
     .intro i e E;by_cases hi:i<q.length
      .rw[BD hi]at E;obtain⟨o',J,O⟩:=r2 i e E;exact⟨a.eval o',by rw[BD (by simpa[<-X] using hi)];simp[J],O⟩
      .rw[A7 (by omega),A2,AO]at E;obtain⟨l,hl,rfl⟩:=E;have hlt:i-q.length<caps.length:=(AP.1 hl).1;have y:cv[i-q.length]?=some cv[i-q.length]:=by simp[q3,hlt]
       obtain⟨p1,p2⟩:=AFm (q4 _ l _ hl y);refine⟨cv[i-q.length],?_,[cv[i-q.length]],rfl,rfl,?_,?_⟩
       .rw[A7 (by simp[<-X];omega)];simp only[An,Array.length_toList,Array.getElem?_toList];have:args.size=q.length:=by rw[X];simp
        rw[this];exact y
       .intro x hx;simp only[EM]at hx;exact p2 x hx.symm
       .intro c l' I;cases c with|zero=>simp only[AM,AD]at I;subst I;exact⟨_,rfl,p1⟩|succ c=>simp at I
    split at j
    all_goals try (rename_i B;cases B;done)
    all_goals try (cases j;done)
    rename_i fo args ats d2 f2 ms2 args2 B;cases B;simp only[AF]at j;refine key fo args ats rfl j.1 j.2 (fun p L=>hm p ?_);cases fo<;>exact L
   .cases y
  .cases y
 |_=>simp[Ft]at y
def AMl(S:St)(g:Gh)(x:XOp)(b:Nat):Prop:=
 match Ft x S with
 |some (_,f,es)=>nW S g (Ef f) es b|none=>Tch S g x b
def AV3(F:Fix)(S:St)(g:Gh)(w:World)(x:XOp)(K:St->Prop)(a':Act)(w':World):Prop:=
 ∃F' S' g',F.Le F'/\Inv F' S' g' a' w'/\K S'/\∀b,b<w.heap.size->¬AMl S g x b->w'.heap[b]?=w.heap[b]?
theorem AR0{Rn:Rel}(hA:PV F.A F.P)(hRn:∀f vs sh cs outs,Rn f vs sh cs outs->Ct F.A F.P f vs sh cs outs)(h:Inv F S g a w){o:Oper}{x:XOp}{K:St->Prop}(B:VQ F.P F.N o.dst o.op x=true)(Z:∀p∈EC o.op x,Mt F.A F.P p.1 p.2)
 (hk:opK Rn x S K):Oper.Rz F.P o a w (AV3 F S g w x K):=by
 rcases hk with ⟨S',j,hK⟩|⟨d,f,es,S1,vs,sh,cs,outs,S2,Y,E,H,hpost,hK⟩
 .obtain⟨n,v,w',g',X,h2,h3,h4⟩:=(AWN h B Z j).eff;have L:Ft x S=none:=by
   cases x<;>first|rfl|(simp[ev]at j)
  have hw:AV3 F S g w x K (a.put o.dst v) w':=⟨F,S',g',.refl,h3,hK,by simpa only[AMl,L] using h4⟩;unfold Oper.Rz
  grind
 .obtain⟨n,us,X,J,y,O,c,hd⟩:=AJ2 hA h B Z Y;have:=AUZ h hd O y E hpost (fun R G U hargs=>hRn _ _ _ _ _ H n J w R G U us hargs);unfold Oper.Rz;rw[X];refine this.mono ?_;rintro e w' ⟨v,F',g',rfl,hLe,q,I⟩;refine⟨v,rfl,F',S2,g',hLe,by rw[c];exact q,hK,?_⟩;simpa only[AMl,Y] using I
theorem lV{Rn:Rel}{F0:Fix}(hA:PV F0.A F0.P)(hRn:∀f vs sh cs outs,Rn f vs sh cs outs->Ct F0.A F0.P f vs sh cs outs){ops:Array Oper}{K:St->Prop}:∀(xs:List (Option (Nat×Bool)×XOp)) (os:List Oper) (F:Fix) (S:St) (g:Gh) (a:Act) (w:World),
 F0.Le F->Inv F S g a w->QG F0.P F0.N ops os xs=true->(∀p∈PJ os xs,Mt F0.A F0.P p.1 p.2)->AFj Rn xs S K ->
 wpList F0.P ops (fun ex a' w'=>ex=.normal/\∃F' S' g',F0.Le F'/\Inv F' S' g' a' w'/\K S') os a w
 | [],os,F,S,g,a,w,hL0,h,j,H,c=>by
  cases os with
  |nil=>exact⟨rfl,F,S,g,hL0,h,c⟩|cons=>simp[QG]at j
 |(gd,x)::xs,os,F,S,g,a,w,hL0,h,j,H,c=>by
  obtain⟨hP,hFA,hN,_,_⟩:=hL0.P;rw[<-hP,<-hFA]at hA hRn;rw[<-hP,<-hN]at j;rw[<-hP,<-hFA]at H;rw[<-hP];by_cases hdrop:∃O,x=.drop O
  .obtain⟨O,rfl⟩:=hdrop;have e:gd.isNone=true/\QG F.P F.N ops os xs=true:=by
    cases os<;>simpa[QG] using j
   have G:gd=none:=by simpa using e.1
   subst G;obtain⟨b,y,c⟩:=c;simp only[wanted,AD]at y;subst y;rcases c with ⟨_,c⟩|⟨y,_⟩
   .rcases c with ⟨S',B,c⟩|⟨d,f,es,S1,vs,sh,cs,outs,S2,X,_⟩
    .simp only[ev,AD]at B;subst B;have:=lV (F0:=F0) (by rw[<-hP,<-hFA];exact hA) (by rw[<-hP,<-hFA];exact hRn) xs os F _ g a w hL0 (AJJ h O) (by rw[<-hP,<-hN];exact e.2) (by rw[<-hP,<-hFA];exact fun p J=>H p (by cases os<;>simpa[PJ] using J)) c;rw[<-hP]at this;exact this
    .simp[Ft]at X
   .cases y
  by_cases q:∃ns,x=.VO ns
  .obtain⟨ns,rfl⟩:=q;have e:gd.isNone=true/\QG F.P F.N ops os xs=true:=by
    cases os<;>simpa[QG] using j
   have G:gd=none:=by simpa using e.1
   subst G;obtain⟨b,y,c⟩:=c;simp only[wanted,AD]at y;subst y;rcases c with ⟨_,c⟩|⟨y,_⟩
   .rcases c with ⟨S',B,c⟩|⟨d,f,es,S1,vs,sh,cs,outs,S2,X,_⟩
    .simp only[ev,AD]at B;subst B;obtain⟨g',Y⟩:=AJM h ns;have:=lV (F0:=F0) (by rw[<-hP,<-hFA];exact hA) (by rw[<-hP,<-hFA];exact hRn) xs os F _ g' a w hL0 Y (by rw[<-hP,<-hN];exact e.2) (by rw[<-hP,<-hFA];exact fun p J=>H p (by cases os<;>simpa[PJ] using J)) c;rw[<-hP]at this;exact this
    .simp[Ft]at X
   .cases y
  .cases os with
   |nil=>cases x<;>first|(simp[QG]at j;done)|exact absurd ⟨_,rfl⟩ hdrop|exact absurd ⟨_,rfl⟩ q
   |cons o os=>
    have e:(Oc ops o.guard gd=true/\VQ F.P F.N o.dst o.op x=true)/\QG F.P F.N ops os xs=true:=by
     cases x<;>first|exact absurd ⟨_,rfl⟩ hdrop|exact absurd ⟨_,rfl⟩ q|simpa[QG,AF] using j
    have I:(∀p∈EC o.op x,Mt F.A F.P p.1 p.2)/\∀p∈PJ os xs,Mt F.A F.P p.1 p.2:=by
     have:PJ (o::os) ((gd,x)::xs)=EC o.op x++PJ os xs:=by
      cases x<;>first|exact absurd ⟨_,rfl⟩ hdrop|exact absurd ⟨_,rfl⟩ q|rfl
     rw[this]at H;exact⟨fun p J=>H p (by simp[J]),fun p J=>H p (by simp[J])⟩
    obtain⟨⟨hg,ho⟩,L⟩:=e;obtain⟨b,y,c⟩:=c;have hw:=Z5 h hg y;simp only[wpList,hw];rcases c with ⟨rfl,c⟩|⟨rfl,S',hs,c⟩
    .simp only[if_true];left;refine Oper.Rz.wp ((AR0 hA hRn h ho I.1 c).mono ?_);rintro a' w' ⟨F',S',g',hLe,E,Z,_⟩;have:=lV (F0:=F0) (by rw[<-hP,<-hFA];exact hA) (by rw[<-hP,<-hFA];exact hRn) xs os F' S' g' a' w' (hL0.trans hLe) E (by rw[<-hP,<-hN];exact L) (by rw[<-hP,<-hFA];exact I.2) Z;rw[<-hP]at this;exact this
    .simp only[BM,if_false];obtain⟨g',E⟩:=xO h ho hs;have:=lV (F0:=F0) (by rw[<-hP,<-hFA];exact hA) (by rw[<-hP,<-hFA];exact hRn) xs os F S' g' _ w hL0 E (by rw[<-hP,<-hN];exact L) (by rw[<-hP,<-hFA];exact I.2) c;rw[<-hP]at this;exact this
theorem AN6(h:Inv F S g a w){fp:Blk}{l:AT}{v:Value}{b:Nat}(q:S.N0 l=true)(L:Bt F S g w fp l v)(y:Kg v=some b) :
 F.K b\/(∃r,l.Bz=some r/\CG S r/\g.fp r b)\/∃id∈names l,(get S.bx id).isSome/\b=g.β id:=by
 have ofOwn:∀{x:T} {u:Value} {S0:Blk},ZV x=false->Own w x u S0->Kg u=some b->S0 b:=by
  intro x u S0 B O y;cases O with
  |sc Z _ _=>
   cases x with
   |top=>cases B
   |un=>cases B
   |sl=>exact Z.elim|mp=>exact Z.elim|_=>have hs':u=_:=Z;subst hs';simp[Kg]at y
  |nl=>simp[Kg]at y|mp=>simp[Kg]at y|sl c f E J G h4 h5 h6 h7 h8 h9 Y=>
   simp only[Kg,AD]at y;subst y;exact(Y _).2 (.inl rfl)
 match l,L,q with
 |.bp id off,L,q=>
  have hv:v=_:=L;subst hv;simp only[Kg,AD]at y;exact .inr (.inr ⟨id,by simp[names],q,y.symm⟩)
 |.ep r i j,⟨e,xs,blk,off,len,cap,E,J,G,h4⟩,_=>
  subst h4;simp only[Kg,AD]at y;subst y;obtain⟨u,hu,O⟩:=h.Cq r _ E;rw[J]at hu;cases hu;exact .inr (.inl ⟨r,rfl,⟨_,E⟩,ofOwn rfl O rfl⟩)
 |.vp (.own r p) (c::cs),⟨I,ad,c0,f,E,J,G⟩,_=>
  subst E;simp only[Kg,AD]at y;subst y;exact .inr (.inl ⟨r,rfl,I,(G 0 c rfl).1⟩)
 |.vp (.old k) (c::cs),⟨ad,c0,E,J,G⟩,_=>
  subst E;simp only[Kg,AD]at y;subst y;exact .inl (F.RK k _ (G 0 c rfl).1)
 |.vp _ [],_,q=>simp[St.N0]at q|.al r sub,⟨x,u,E,J,G⟩,q=>
  have B:ZV x=false:=by simpa[St.N0,E] using q
  obtain⟨u',X,O⟩:=h.Cq r _ E;rw[J]at X;cases X;have hO:Own w x u (g.fp r):=O;refine .inr (.inl ⟨r,rfl,⟨_,E⟩,?_⟩);cases sub with
  |none=>
   have H:v=u:=G;subst H;exact ofOwn B hO y
  |some p=>
   obtain⟨lo,n⟩:=p;cases x with
   |sl e xs=>
    obtain⟨blk,off,len,cap,off',cap',q1,q2,_⟩|⟨_,q2,_⟩:=G
    .subst q1 q2;simp only[Kg,AD]at y;subst y;exact ofOwn rfl hO rfl
    .subst q2;simp[Kg]at y
   |_=>
    obtain⟨H,_⟩:=G;subst H;exact ofOwn B hO y
 |.vw (.own r p) e xs,⟨I,⟨S0,hS0,hO⟩,_⟩,_=>exact .inr (.inl ⟨r,rfl,I,hS0 b (ofOwn rfl hO y)⟩)|.t .nil,L,_=>
  have hv:v=_:=L;subst hv;simp[Kg]at y
 |.t (.int _ _),_,q=>simp[St.N0]at q|.t (.bool _),_,q=>simp[St.N0]at q|.t (.str _),_,q=>simp[St.N0]at q|.t .np,_,q=>simp[St.N0]at q|.t .top,_,q=>simp[St.N0]at q|.t .un,_,q=>simp[St.N0]at q|.t (.sl _ _),_,q=>simp[St.N0]at q|.vw (.old _) _ _,_,q=>simp[St.N0]at q|.und,_,q=>simp[St.N0]at q|.ow _,_,q=>simp[St.N0]at q|.fn _ _,_,q=>simp[St.N0]at q
theorem ACB{l:AT}{id:Nat}(h:id∈names l):Fp id l=true:=by
 cases l<;>simp[names]at h
 .simp[Fp,AT.Lw,h]
 grind[Fp,List.any_eq_true,AT.Lw]
theorem dI{l:AT}:∀{ms:List Md} {es:List Ent},J6 l ms es=true->∀(i:Nat) md e,ms[i]?=some md->es[i]?=some e->md.writes=true->∀l'∈e.cs,RN l' l=false
 | [],_,_,i,md,e,h,_,_=>by simp at h|_::_,[],_,_,_,_,_,h,_=>by simp at h|y::ms,B::es,h,i,md,e,j,c,q=>by
  simp only[J6,AF,Cj,DI,BG]at h;cases i with
  |zero=>
   grind[List.getElem?_cons_zero,Option.some.injEq]
  |succ i=>exact dI h.2 i md e (by simpa using j) (by simpa using c) q
theorem AFs(h:Inv F S g a w){y:Opd}{l:AT}{r:CD}(c:S.one y=some l)(e:l.Bz=some r):CG S r:=by
 cases y with
 |tmp s=>exact(Hp h c (o:=.tmp s) (by simp[B9]) (by simp[CF])).1.alive e|k x=>
  simp only[St.one,St.rd]at c;cases c;cases x<;>cases e
 |fn f=>
  simp only[St.one,St.rd]at c;cases c;cases e
theorem AVh(h:Inv F S g a w){x:XOp}{s:Nat}{l:AT}{b:Nat}(hs:S.one (.tmp s)=some l)(hsafe:Um x S l=true)(hb:Kg (a.tmps.getD s undef)=some b):b<w.heap.size/\¬AMl S g x b:=by
 have hl:=(Hp h hs (o:=.tmp s) (by simp[B9]) (by simp[CF])).1;have hev:a.eval (.tmp s)=a.tmps.getD s undef:=by simp[Act.eval]
 rw[hev]at hl;simp only[Um,AF]at hsafe;obtain⟨hfirm,hsafe⟩:=hsafe;have hcases:=AN6 h hfirm hl hb;have flt:∀r,CG S r->g.fp r b->b<w.heap.size:=by
  rintro r ⟨y,hy⟩ O;obtain⟨u,_,ho⟩:=h.Cq r _ hy;exact Own.lt ho b O
 refine⟨?_,?_⟩
 .rcases hcases with Y|⟨r,_,c,O⟩|⟨id,_,G,rfl⟩
  .exact BR (h.rlt b Y) h.size
  .exact flt r c O
  .obtain⟨ls,hls⟩:=Bj.1 G;obtain⟨⟨E,hE⟩,_⟩:=h.bxs id ls hls;exact(A1.1 hE).1
 .intro hT;unfold AMl at hT;have main:∀f es,(match x with|.st _ _ _=>False|_=>True)->Ft x S=some (0,f,es)\/True->J6 l (Ef f) es=true->nW S g (Ef f) es b->False:=by
   rintro f es _ _ Z ⟨i,md,e,hm,he,hw,hT⟩;have hsh:=dI Z i md e hm he hw;have off:∀l'∈e.cs,(∀r,l'.Bz=some r->l.Bz≠some r)/\∀id∈names l',Fp id l=false:=by
    intro l' hl';have h1:=hsh l' hl';simp only[RN,Eu,List.any_eq_false,Bool.not_eq_true]at h1;refine⟨fun r hr=>?_,h1.2⟩;have:=h1.1;rw[hr]at this;simpa using this
   rcases hT with ⟨id,rfl,G,rfl⟩|⟨l',r',hl',hr',L,hf'⟩
   .rcases hcases with Y|⟨r,_,c,O⟩|⟨q,B,H,he1⟩
    .exact h.bxR id G Y
    .exact h.FR r id c G O
    .have:q=id:=h.GM q id H G he1.symm;subst this;have:=(off (.bp q 0) (by simp)).2 q (by simp[names]);rw[ACB B]at this;cases this
   .rcases hcases with Y|⟨r,hr,c,O⟩|⟨q,B,H,rfl⟩
    .exact h.Gu r' L b hf' Y
    .by_cases hrr:r'=r
     .subst hrr;exact(off l' hl').1 r' hr' hr
     .exact h.dis r' r L c hrr b hf' O
    .exact h.FR r' q L H hf'
  split at hT
  .rename_i d f es hc;have Z:J6 l (Ef f) es=true:=by
    cases x<;>first|(simp[Ft]at hc;done)|(simpa only[hc] using hsafe)
   exact main f es (by cases x<;>first|trivial|(simp[Ft]at hc)) (.inr trivial) Z hT
  .rename_i hc;have key:∀y,x.wr=some y->(∃l r,S.one y=some l/\l.Bz=some r/\g.fp r b)->(match S.one y with|some lt=>l.Bz.isNone||decide (l.Bz≠lt.Bz)|none=>true)=true->False:=by
    rintro y hy ⟨lt,r,h1,h2,h3⟩ hh;rw[h1]at hh;simp only[Cj,Option.isNone_iff_eq_none,decide_eq_true_eq]at hh;have c:=AFs h h1 h2;rcases hcases with Y|⟨r1,J,I,X⟩|⟨q,B,H,rfl⟩
    .exact h.Gu r c b h3 Y
    .rcases hh with hh|hh
     .rw[hh]at J;cases J
     .have hne:r1≠r:=by rintro rfl;exact hh (J.trans h2.symm)
      exact h.dis r1 r I c hne b X h3
    .exact h.FR r q c H h3
   have stc:∀n p v,x=.st n p v->False:=by
    rintro n p v rfl;simp only[Tch]at hT;obtain⟨lp,hlp,hT⟩:=hT;dsimp only at hsafe;rw[hlp]at hsafe;rcases hT with ⟨id,off,rfl,G,rfl⟩|⟨r,hr,c,O⟩
    .dsimp only at hsafe;rcases hcases with Y|⟨r1,J,I,X⟩|⟨q,B,H,he1⟩
     .exact h.bxR id G Y
     .exact h.FR r1 id I G X
     .have:q=id:=h.GM q id H G he1.symm;subst this;simp[B]at hsafe
    .cases lp with
     |ep r0 i j=>
      simp only[AT.Bz,AD]at hr;subst hr;simp only[decide_eq_true_eq]at hsafe;rcases hcases with Y|⟨r1,J,I,X⟩|⟨q,B,H,rfl⟩
      .exact h.Gu _ c b O Y
      .have hne:r1≠r0:=by rintro rfl;exact hsafe J
       exact h.dis r1 r0 I c hne b X O
      .exact h.FR _ q c H O
     |_=>first|(simp[AT.Bz]at hr;done)|(simp at hsafe;done)
   by_cases hst:∃n p v,x=.st n p v
   .obtain⟨n,p,v,hx⟩:=hst;exact stc n p v hx
   clear stc;cases x<;>first|exact hst ⟨_,_,_,rfl⟩|(simp only[Tch,XOp.wr]at hT<;>first|exact hT|(simp only[hc,XOp.wr]at hsafe;exact key _ rfl hT hsafe)|(simp at hsafe))
end
section
variable{P:Program}{ops:Array Oper}{Q:Exit->Act->World->Prop}
def PT(P:Program)(ops:Array Oper)(Q:Exit->Act->World->Prop)(L:List (Nat×Nat)):Nat->Array Bool->Act->World->Prop
 |0,listed,a,w=>Bc .any ops listed=[]/\Q .normal a w|fuel+1,listed,a,w=>
  (Bc .any ops listed=[]->Q .normal a w) /\
  ∀j∈Bc .any ops listed,wpOp P ops Q j (fun a' w'=>(∀t∈L,Rc ops ops.size j t.1=false->w'.heap[t.2]?=w.heap[t.2]?)/\PT P ops Q L fuel (listed.setIfInBounds j true) a' w') a w
theorem m8{L:List (Nat×Nat)}:∀(fuel:Nat) (listed:Array Bool) (a:Act) (w:World),PT P ops Q L fuel listed a w->wpAny P .any ops Q fuel listed a w|0,_,_,_,h=>h|fuel+1,_,_,_,h=>⟨h.1,fun i hi=>wpOp_mono (fun a' w' c=>m8 fuel _ a' w' c.2) (h.2 i hi)⟩
def OP(ops:Array Oper)(listed:Array Bool):Prop:=∀(j:Nat) oj,ops[j]?=some oj->listed.getD j true=true->∀e∈oj.after,D4 .any e=true->listed.getD e.on false=true
theorem VC{listed:Array Bool}{j:Nat}(h:listed.getD j false=true):listed.getD j true=true:=by
 grind[Nat.lt_or_ge,Array.getElem?_eq_none]
theorem OP.set{listed:Array Bool}{i:Nat}(B:OP ops listed)(hi:i∈Bc .any ops listed):OP ops (listed.setIfInBounds i true):=by
 obtain⟨I,oi,H,h⟩:=mem_ready.1 hi;intro j oj G q e E y;by_cases c:i=j
 .grind[getD_set_true]
 .rw[getD_set_ne true c]at q;exact getD_set_true (B j oj G q e E y)
theorem pj{b:Nat}:∀(l:List Edge) (m:Nat),(l.foldl (fun m e=>if D4 .any e=true then m |||2 ^ e.on else m) m).testBit b=true->m.testBit b=true\/∃e∈l,D4 .any e=true/\e.on=b
 | [],m,h=>.inl h|e::l,m,h=>by
  rw[List.foldl_cons]at h;rcases pj l _ h with c|⟨j,c,q⟩
  .grind[List.mem_cons_self]
  grind[List.mem_cons_of_mem]
theorem pg{j b:Nat}(h:(ABb ops j).testBit b=true):∃o,ops[j]?=some o/\∃e∈o.after,D4 .any e=true/\e.on=b:=by
 unfold ABb at h;split at h
 .rename_i o y;rcases pj _ _ h with c|⟨e,c,q⟩
  .simp at c
  grind
 .simp at h
theorem dG{listed:Array Bool}(j:OP ops listed):∀(n m:Nat),(∀b,m.testBit b=true->listed.getD b false=true)->∀b,(AMt ops n m).testBit b=true->listed.getD b false=true
 |0,m,h,b,c=>h b c|k+1,m,h,b,c=>by
  unfold AMt at c;split at c
  .rename_i B;refine dG j k _ (fun b c=>?_) b c;rw[Nat.testBit_or,Cj]at c;rcases c with c|c
   .exact h b c
   .obtain⟨o,E,e,y,q,rfl⟩:=pg c;exact j k o E (VC (h k B)) e y q
  .exact dG j k m h b c
theorem AMh{listed:Array Bool}(y:OP ops listed){i:Nat}(hi:listed.getD i true=false)(n j:Nat)(h:∀oj,ops[j]?=some oj->∀e∈oj.after,D4 .any e=true->listed.getD e.on false=true):Rc ops n j i=false:=by
 rw[Bool.eq_false_iff];intro G;have:=dG y n (ABb ops j) (fun b q=>by obtain⟨o,E,e,B,c,rfl⟩:=pg q;exact h o E e B c) i G
 grind[VC]
theorem NQ{L:List (Nat×Nat)}{i b:Nat}{oi:Oper}{v:Value}(hi:ops[i]?=some oi)(J:∀(j:Nat) (o:Oper) cs c,ops[j]?=some o->o.op≠.select cs c)
 (hQ:∀c a w,Q (.panic c) (a.put oi.dst v) w->Q (.panic c) a w) {ob:Option Obj} (rd:Bool) :
 ∀(fuel:Nat) (listed:Array Bool) (a:Act) (w:World),OP ops listed ->
  (∀j oj,ops[j]?=some oj->j≠i->listed.getD j true=false->(∀e∈oj.after,D4 .any e=true->e.on≠i)->oi.apart ops oj=true) ->
  i∈Bc .any ops listed->YieldsIf P ops (fun w=>rd=true->w.heap[b]?=ob) oi v a->(rd=true->w.heap[b]?=ob) ->
  PT P ops Q (if rd=true then (i,b)::L else L) fuel (listed.setIfInBounds i true) (a.put oi.dst v) w->PT P ops Q L (fuel+1) listed a w:=by
 intro fuel
 induction fuel with
 |zero=>
  intro listed a w X _ Y hy hS H;refine⟨fun h=>(by rw[h]at Y;cases Y),fun j Z=>?_⟩;by_cases q:j=i
  .subst q;exact hy.wpOp hi hS ⟨fun _ _ _=>rfl,H⟩
  .have:=ready_mono Z q;rw[H.1]at this;cases this
 |succ fuel ih=>
  intro listed a w X hfree Y hy hS H;have O:∀t∈L,t∈(if rd=true then (i,b)::L else L):=by intro t ht;split<;>simp[ht]
  refine⟨fun h=>(by rw[h]at Y;cases Y),fun j Z=>?_⟩;by_cases q:j=i
  .subst q;refine hy.wpOp hi hS ⟨fun _ _ _=>rfl,?_⟩;have mono:∀(f:Nat) (li:Array Bool) (a:Act) (w:World),PT P ops Q (if rd=true then (j,b)::L else L) f li a w->PT P ops Q L f li a w:=by
    intro f
    induction f with
    |zero=>intro li a w h;exact h
    |succ f ihf=>intro li a w h;exact⟨h.1,fun k hk=>wpOp_mono (fun a' w' h'=>⟨fun t ht=>h'.1 t (O t ht),ihf _ _ _ h'.2⟩) (h.2 k hk)⟩
   exact mono _ _ _ _ H
  .have h1:=H.2 j (ready_mono Z q);obtain⟨G,oj,y,B⟩:=mem_ready.1 Z;have E:=(mem_ready.1 Y).1;have hnot:∀e∈oj.after,D4 .any e=true->e.on≠i:=fun e he hb heq=>by
    have h1:=B e he hb;have h2:=VC h1;rw[heq,E]at h2;cases h2
   have hwait:Rc ops ops.size j i=false:=AMh X E _ j fun oj' I e he hb=>by
    rw[y]at I;cases I;exact B e he hb
   have h2:=wpOp_putIf y (hfree j oj y q G hnot) (fun cs b=>J i oi cs b hi) (fun cs b=>J j oj cs b y) hQ hy h1;have hfree':∀k ok,ops[k]?=some ok->k≠i->(listed.setIfInBounds j true).getD k true=false ->
    (∀e∈ok.after,D4 .any e=true->e.on≠i)->oi.apart ops ok=true:=fun k ok hk hki hun hno=>by
    refine hfree k ok hk hki ?_ hno;by_cases hjk:j=k
    .subst hjk;exact G
    .rw[getD_set_ne true hjk]at hun;exact hun
   refine wpOp_mono (fun a' w' h3=>⟨fun t ht=>h3.2.1 t (O t ht),ih (listed.setIfInBounds j true) a' w' (X.set Z) hfree' (ready_mono Y (Ne.symm q)) h3.1 ?_ ?_⟩) h2
   .intro hrd;rw[h3.2.1 (i,b) (by simp[hrd]) hwait];exact hS hrd
   .rw[Array.setIfInBounds_comm _ _ q];exact h3.2.2
end
theorem Oper.Rz.put{P:Program}{o:Oper}{a:Act}{w:World}{K:Act->World->Prop}(h:Oper.Rz P o a w K):Oper.Rz P o a w (fun a' w'=>(∃v,a'=a.put o.dst v)/\K a' w'):=by
 grind[Oper.Rz]
section
variable{F:Fix}{S S' S1 S2:St}{g g' g1:Gh}{a a':Act}{w w':World}
theorem lZ{a:Act}{dst:Option Tmp}{v:Value}{s:Nat}(h:dst≠some s):(a.put dst v).tmps.getD s undef=a.tmps.getD s undef:=by
 cases dst with
 |none=>rfl|some d=>
  have c:d≠s:=fun e=>h (e▸rfl)
  simp[Act.put,Array.getElem?_setIfInBounds_ne c]
theorem AXZ{Rn:Rel}{x:XOp}{K:St->Prop}(h:Mg x≠.eff)(c:opK Rn x S K):∃S',ev x S=some S'/\K S':=by
 rcases c with c|⟨d,f,es,S1,vs,sh,cs,outs,S2,e,_⟩
 .exact c
 .cases x<;>first|(simp[Ft]at e;done)|exact absurd rfl h
theorem AW9{N s:Nat}{dst:Option Nat}{op:Op}{x:XOp}{y:Operand}{P:Program}(c:VQ P N dst op x=true)(e:TB x=some s)(j:ATf op=some y):y=.tmp s:=by
 simp only[VQ,AF]at c;obtain⟨_,c⟩:=c;have tm:∀{o:Operand} {t:Nat},B9 o (.tmp t)=true->o=.tmp t:=by
  intro o t h;cases o<;>simp[B9]at h;rw[h]
 unfold TB at e
 grind[ATf]
theorem NX:∀{r:Rv},Ia r=0->Od r=[]
 |.nil,_=>rfl|.op _ _ _ _ _,h=>by simp[Ia]at h|.dr _ r,h=>by simp only[Ia]at h;simp[Od,NX h]|.nl _ r,h=>by simp only[Ia]at h;simp[Od,NX h]|.both a b,h=>by
  simp only[Ia]at h;simp[Od,NX (r:=a) (by omega),NX (r:=b) (by omega)]
theorem rH{x:XOp}:∀{sf:List Nat},Ju x S sf=true->∀s∈sf,∃l,S.one (.tmp s)=some l/\Um x S l=true
 | [],_,s,c=>by simp at c|t::ts,h,s,c=>by
  simp only[Ju,AF]at h;rcases Ag.1 c with rfl|c
  .grind
  .exact rH h.2 s c
def Fin(F0:Fix)(K:St->Prop)(ex:Exit)(a':Act)(w':World):Prop:=ex=.normal/\∃F' S' g',F0.Le F'/\Inv F' S' g' a' w'/\K S'
theorem ADP{P:Program}{ops:Array Oper}{Q:Exit->Act->World->Prop}{L:List (Nat×Nat)}{listed:Array Bool}{a:Act}{w:World}(c:Bc .any ops listed=[])(h:Q .normal a w):∀fuel,PT P ops Q L fuel listed a w|0=>⟨c,h⟩|_+1=>⟨fun _=>h,by rw[c];simp⟩
theorem OD{Rn:Rel}{F0:Fix}(hA:PV F0.A F0.P)(hRn:∀f vs sh cs outs,Rn f vs sh cs outs->Ct F0.A F0.P f vs sh cs outs){ops:Array Oper}(B:Region.noSelect ops=true){K:St->Prop} :
 ∀(r:Rv) (listed:Array Bool) (Ls L:List (Nat×Nat)) (F:Fix) (S:St) (g:Gh) (a:Act) (w:World),F0.Le F->Inv F S g a w->(∀p∈Mm ops r,Mt F0.A F0.P p.1 p.2)->OP ops listed ->
  (∀t∈L,∃s,(t.1,s)∈Ls/\Kg (a.tmps.getD s undef)=some t.2)->runK Rn r S K ->
  (IT F0.P F0.N ops true r listed Ls=true->∀fuel,Ia r<=fuel->PT F0.P ops (Fin F0 K) L fuel listed a w) /\
  (IT F0.P F0.N ops false r listed Ls=true->∀fuel,Ia r<=fuel+1->∀j∈Od r,j∈Bc .any ops listed ->
   wpOp F0.P ops (Fin F0 K) j (fun a' w'=>(∀t∈L,Rc ops ops.size j t.1=false->w'.heap[t.2]?=w.heap[t.2]?)/\PT F0.P ops (Fin F0 K) L fuel (listed.setIfInBounds j true) a' w') a w)
 |.nil,listed,Ls,L,F,S,g,a,w,hLe,h,_,_,_,J=>by
  refine⟨fun q fuel _=>ADP (by simpa[IT] using q) ⟨rfl,F,S,g,hLe,h,J⟩ fuel,fun q=>by simp[IT]at q⟩
 |.dr ds r,listed,Ls,L,F,S,g,a,w,hLe,h,hm,G,hL,J=>
  OD hA hRn B r listed Ls L F (S.IS ds) g a w hLe (AJJ h ds) hm G hL J
 |.nl ns r,listed,Ls,L,F,S,g,a,w,hLe,h,hm,G,hL,J=>by
  obtain⟨g',hg⟩:=AJM h ns;exact OD hA hRn B r listed Ls L F (S.RA ns) g' a w hLe hg hm G hL J
 |.both r1 r2,listed,Ls,L,F,S,g,a,w,hLe,h,hm,G,hL,J=>by
  obtain⟨hk1,hk2⟩:=J;have i1:=OD hA hRn B r1 listed Ls L F S g a w hLe h (fun p hp=>hm p (by simp[Mm,hp])) G hL hk1;have i2:=OD hA hRn B r2 listed Ls L F S g a w hLe h (fun p hp=>hm p (by simp[Mm,hp])) G hL hk2;constructor
  .intro q fuel hf;simp only[IT,Bool.not_true,Bool.false_or,AF,BG,List.isEmpty_eq_false_iff,DI,Ea]at q;obtain⟨⟨⟨hne,hcov⟩,ho1⟩,ho2⟩:=q;simp only[Ia]at hf;cases fuel with
   |zero=>
    exfalso;have e1:=NX (r:=r1) (by omega);have e2:=NX (r:=r2) (by omega);obtain⟨j,hj⟩:=List.exists_mem_of_ne_nil _ hne;have:=hcov j hj;simp[e1,e2]at this
   |succ fuel=>
    refine⟨fun h0=>absurd h0 hne,fun j hj=>?_⟩;rcases CO.1 (hcov j hj) with hj1|hj1
    .exact i1.2 ho1 fuel (by omega) j hj1 hj
    .exact i2.2 ho2 fuel (by omega) j hj1 hj
  .intro q fuel hf j hj hjr;simp only[IT,Bool.not_false,Bool.true_or,Bool.true_and,AF]at q;simp only[Ia]at hf;rcases CO.1 hj with hj1|hj1
   .exact i1.2 q.1 fuel (by omega) j hj1 hjr
   .exact i2.2 q.2 fuel (by omega) j hj1 hjr
 |.op i gd sf x r,listed,Ls,L,F,S,g,a,w,hLe,h,hm,G,hL,J=>by
  obtain⟨hP,hFA,hN,_,_⟩:=hLe.P;have hA':PV F.A F.P:=by rw[hFA,hP];exact hA
  have hRn':∀f vs sh cs outs,Rn f vs sh cs outs->Ct F.A F.P f vs sh cs outs:=by rw[hFA,hP];exact hRn
  have main:∀top,IT F0.P F0.N ops top (.op i gd sf x r) listed Ls=true->∃o,ops[i]?=some o/\Oc ops o.guard gd=true/\VQ F.P F.N o.dst o.op x=true/\(∀p∈EC o.op x,Mt F.A F.P p.1 p.2)/\(∀t∈Ls,o.dst≠some t.2) /\
   (match Mg x with
    |.pure=>top=true/\i∈Bc .any ops listed/\Region.free .any ops listed i=true/\IT F0.P F0.N ops true r (listed.setIfInBounds i true) Ls=true|.ld=>top=true/\i∈Bc .any ops listed/\Region.free .any ops listed i=true/\∃s,TB x=some s/\o.dst≠some s/\IT F0.P F0.N ops true r (listed.setIfInBounds i true) ((i,s)::Ls)=true|.eff=>(top=true->i∈Bc .any ops listed/\∀j∈Bc .any ops listed,j=i)/\(∀t∈Ls,Rc ops ops.size i t.1=true\/t.2∈sf)/\IT F0.P F0.N ops true r (listed.setIfInBounds i true) Ls=true):=by
   intro top q;unfold IT at q;split at q
   .cases q
   .rename_i o ho;simp only[AF,DI,BG,beq_eq_false_iff_ne,ne_eq]at q;obtain⟨⟨⟨h1,h2⟩,h3⟩,h4⟩:=q;refine⟨o,ho,h1,by rw[hP,hN];exact h2,by rw[hFA,hP];exact fun p hp=>hm p (by simp[Mm,ho,hp]),h3,?_⟩;cases e:Mg x with
    |pure=>
     simp only[e,AF,Ea]at h4;exact⟨h4.1.1.1,h4.1.1.2,h4.1.2,h4.2⟩
    |ld=>
     simp only[e,AF,Ea]at h4;obtain⟨⟨⟨k1,k2⟩,k3⟩,k4⟩:=h4;refine⟨k1,k2,k3,?_⟩;split at k4
     .rename_i s hs;simp only[AF,BG,beq_eq_false_iff_ne,ne_eq]at k4;exact⟨s,hs,k4.1,k4.2⟩
     .cases k4
    |eff=>
     simp only[e,AF,DI,Cj,BG,Ea,beq_iff_eq]at h4;refine⟨fun ht=>?_,fun t ht=>(h4.1.2 t ht).symm,h4.2⟩;rcases h4.1.1 with hh|hh
     .rw[ht]at hh;cases hh
     .exact hh
  have hmr:∀p∈Mm ops r,Mt F0.A F0.P p.1 p.2:=fun p hp=>hm p (by simp only[Mm,CO];exact .inr hp)
  obtain⟨b,hb,J⟩:=J;have effect:∀o,ops[i]?=some o->Oc ops o.guard gd=true->VQ F.P F.N o.dst o.op x=true->(∀p∈EC o.op x,Mt F.A F.P p.1 p.2)->(∀t∈Ls,o.dst≠some t.2)->(∀t∈Ls,Rc ops ops.size i t.1=true\/t.2∈sf) ->
   IT F0.P F0.N ops true r (listed.setIfInBounds i true) Ls=true->i∈Bc .any ops listed->∀fuel,Ia r<=fuel ->
   wpOp F0.P ops (Fin F0 K) i (fun a' w'=>(∀t∈L,Rc ops ops.size i t.1=false->w'.heap[t.2]?=w.heap[t.2]?)/\PT F0.P ops (Fin F0 K) L fuel (listed.setIfInBounds i true) a' w') a w:=by
   intro o ho hg Z hmo X hw q I fuel hf;have hwant:=Z5 h hg hb;have hLn:∀v,∀t∈L,∃s,(t.1,s)∈Ls/\Kg ((a.put o.dst v).tmps.getD s undef)=some t.2:=by
    intro v t ht;obtain⟨s,h1,h2⟩:=hL t ht;exact⟨s,h1,by rw[lZ (X _ h1)];exact h2⟩
   unfold wpOp;simp only[ho,hwant];rcases J with ⟨rfl,hsf,J⟩|⟨rfl,S',hs,J⟩
   .simp only[if_true];left;rw[<-hP];refine Oper.Rz.wp ((AR0 hA' hRn' h Z hmo J).put.mono ?_);rintro a' w' ⟨⟨v,rfl⟩,F',S',g',hLe',H,E,hfr⟩;rw[hP];refine⟨?_,(OD hA hRn B r (listed.setIfInBounds i true) Ls L F' S' g' _ w' (hLe.trans hLe') H hmr (G.set I) (hLn v) E).1 q fuel hf⟩;intro t ht hwt;obtain⟨s,h1,h2⟩:=hL t ht;rcases hw _ h1 with hh|hh
    .rw[hwt]at hh;cases hh
    .obtain⟨l,hl,hsl⟩:=rH hsf s hh;obtain⟨q1,q2⟩:=AVh h hl hsl h2;exact hfr t.2 q1 q2
   .simp only[BM,if_false];obtain⟨g',H⟩:=xO h Z hs;exact⟨fun _ _ _=>trivial,(OD hA hRn B r (listed.setIfInBounds i true) Ls L F S' g' _ w hLe H hmr (G.set I) (hLn _) J).1 q fuel hf⟩
  constructor
  .intro q fuel hf;obtain⟨o,ho,hg,Z,hmo,X,e⟩:=main true q;simp only[Ia]at hf;obtain⟨fuel,rfl⟩:∃f,fuel=f+1:=⟨fuel-1,by omega⟩;have hwant:=Z5 h hg hb;have hLn:∀v,∀t∈L,∃s,(t.1,s)∈Ls/\Kg ((a.put o.dst v).tmps.getD s undef)=some t.2:=by
    intro v t ht;obtain⟨s,h1,h2⟩:=hL t ht;exact⟨s,h1,by rw[lZ (X _ h1)];exact h2⟩
   have hQ:∀{v:Value} c (a:Act) w,Fin F0 K (.panic c) (a.put o.dst v) w->Fin F0 K (.panic c) a w:=fun c a w hh=>by cases hh.1
   by_cases heff:Mg x=.eff
   .rw[heff]at e;obtain⟨h1,h2,h3⟩:=e;obtain⟨I,hall⟩:=h1 rfl;refine⟨fun h0=>(by rw[h0]at I;cases I),fun j hj=>?_⟩;have:=hall j hj;subst this;exact effect o ho hg Z hmo X h2 h3 hj fuel (by omega)
   .have hirf:i∈Bc .any ops listed/\Region.free .any ops listed i=true:=by
     cases E:Mg x with
     |pure=>rw[E]at e;exact⟨e.2.1,e.2.2.1⟩|ld=>rw[E]at e;exact⟨e.2.1,e.2.2.1⟩|eff=>exact absurd E heff
    obtain⟨I,hfree⟩:=hirf;rcases J with ⟨rfl,hsf,J⟩|⟨rfl,S',hs,J⟩
    .obtain⟨S',hev,J⟩:=AXZ heff J;have O:=AWN h Z hmo hev;cases E:Mg x with
     |pure=>
      rw[E]at e;unfold Did at O;rw[E]at O;obtain⟨v,g',hrun,H⟩:=O;refine NQ (b:=0) (ob:=none) (v:=v) ho (Region.noSelect_spec B) hQ false fuel listed a w G (Region.free_spec ho hfree) I (.inl ⟨hwant,fun w1 _=>by rw[<-hP];exact hrun w1⟩) (fun hh=>by cases hh) ?_;exact(OD hA hRn B r _ Ls L F S' g' _ w hLe H hmr (G.set I) (hLn v) J).1 e.2.2.2 fuel (by omega)
     |ld=>
      rw[E]at e;unfold Did at O;rw[E]at O;obtain⟨v,g',y,hy,hrun,H⟩:=O;obtain⟨_,_,_,s,hs,hds,Y⟩:=e;have hys:=AW9 Z hs hy;subst hys;have hev:a.eval (.tmp s)=a.tmps.getD s undef:=by simp[Act.eval]
      cases hblk:Kg (a.tmps.getD s undef) with
      |none=>
       refine NQ (b:=0) (ob:=none) (v:=v) ho (Region.noSelect_spec B) hQ false fuel listed a w G (Region.free_spec ho hfree) I (.inl ⟨hwant,fun w1 _=>by rw[<-hP];exact hrun w1 (fun b hb=>by rw[hev,hblk]at hb;cases hb)⟩) (fun hh=>by cases hh) ?_;refine(OD hA hRn B r _ ((i,s)::Ls) L F S' g' _ w hLe H hmr (G.set I) ?_ J).1 Y fuel (by omega);intro t ht;obtain⟨s',h1,h2⟩:=hLn v t ht;exact⟨s',by simp[h1],h2⟩
      |some b=>
       refine NQ (b:=b) (ob:=w.heap[b]?) (v:=v) ho (Region.noSelect_spec B) hQ true fuel listed a w G (Region.free_spec ho hfree) I (.inl ⟨hwant,fun w1 hw1=>by
        rw[<-hP];refine hrun w1 (fun b' hb'=>?_);rw[hev,hblk]at hb';cases hb';exact hw1 rfl⟩) (fun _=>rfl) ?_
       refine(OD hA hRn B r _ ((i,s)::Ls) ((i,b)::L) F S' g' _ w hLe H hmr (G.set I) ?_ J).1 Y fuel (by omega);intro t ht;rcases Ag.1 ht with rfl|ht
       .exact⟨s,by simp,by rw[lZ hds];exact hblk⟩
       .obtain⟨s',h1,h2⟩:=hLn v t ht;exact⟨s',by simp[h1],h2⟩
     |eff=>exact absurd E heff
    .obtain⟨g',H⟩:=xO h Z hs;have hrest:∃Ls',(∀t∈Ls,t∈Ls')/\IT F0.P F0.N ops true r (listed.setIfInBounds i true) Ls'=true:=by
      cases E:Mg x with
      |pure=>rw[E]at e;exact⟨Ls,fun _ h=>h,e.2.2.2⟩|ld=>rw[E]at e;obtain⟨_,_,_,s,_,_,Y⟩:=e;exact⟨_,fun t ht=>List.mem_cons_of_mem _ ht,Y⟩
      |eff=>exact absurd E heff
     obtain⟨Ls',hsub,Y⟩:=hrest;refine NQ (b:=0) (ob:=none) (v:=undef) ho (Region.noSelect_spec B) hQ false fuel listed a w G (Region.free_spec ho hfree) I (.inr ⟨hwant,rfl⟩) (fun hh=>by cases hh) ?_;refine(OD hA hRn B r _ Ls' L F S' g' _ w hLe H hmr (G.set I) ?_ J).1 Y fuel (by omega);intro t ht;obtain⟨s',h1,h2⟩:=hLn undef t ht;exact⟨s',hsub _ h1,h2⟩
  .intro q fuel hf j hj hjr;obtain⟨o,ho,hg,Z,hmo,X,e⟩:=main false q;simp only[Od,EM]at hj;subst hj;simp only[Ia]at hf;cases E:Mg x with
   |pure=>rw[E]at e;cases e.1
   |ld=>rw[E]at e;cases e.1
   |eff=>
    rw[E]at e;exact effect o ho hg Z hmo X e.2.1 e.2.2 hjr fuel (by omega)
end
def Ex.exit:Ex->Exit|.n=>.normal|.x id=>.exit id|.r=>.ret
def End(F0:Fix)(Q:Ex->St->Prop)(ex:Exit)(a:Act)(w:World):Prop:=∃e F' S' g',ex=Ex.exit e/\F0.Le F'/\Inv F' S' g' a w/\Q e S'
theorem EK{Rn:Rel}{F0:Fix}(hA:PV F0.A F0.P)(hRn:∀f vs sh cs outs,Rn f vs sh cs outs->Ct F0.A F0.P f vs sh cs outs) :
 ∀(x:Ng) (c:Code) (F:Fix) (S:St) (g:Gh) (a:Act) (w:World) (Q:Ex->St->Prop),F0.Le F->Inv F S g a w->codeOk F0.P F0.N c x=true->(∀p∈EJ c x,Mt F0.A F0.P p.1 p.2)->wp Rn x S Q ->
  c.wp F0.P (End F0 Q) a w
 |.skip,c,F,S,g,a,w,Q,hL,h,y,G,E=>by
  cases c<;>simp[codeOk]at y;exact wp_skip ⟨.n,F,S,g,rfl,hL,h,E⟩
 |.region xs FV,c,F,S,g,a,w,Q,hL,h,y,G,E=>by
  cases c<;>simp only[codeOk,AF,BG,BM]at y;obtain⟨rfl,y⟩:=y;refine wp_mono (wp_region_list (lV hA hRn xs _ F S g a w hL h y G E)) ?_;rintro e a' w' ⟨rfl,F',S',g',hL',I,ks,B⟩;exact⟨.n,F',_,g',rfl,hL',I.clean ks,B⟩
 |.U5 r FV,c,F,S,g,a,w,Q,hL,h,y,G,E=>by
  cases c<;>simp only[codeOk,AF,decide_eq_true_eq,BM]at y;rename_i id ops d;obtain⟨⟨⟨⟨rfl,hmo⟩,Y⟩,O⟩,y⟩:=y;have y:=Li _ _ _ _ y;rw[AUQ]at y;have hcl:OP ops (Array.replicate ops.size false):=by
   intro j oj hj hl;have:j<ops.size:=(A1.1 hj).1;simp[this]at hl
  refine wp_mono (wp_region_any hmo (m8 _ _ _ _ ((OD hA hRn Y r _ [] [] F S g a _ hL (h.drawn _) G hcl (fun t ht=>by cases ht) E).1 y _ O))) ?_;rintro e a' w' ⟨rfl,F',S',g',hL',I,ks,B⟩;exact⟨.n,F',_,g',rfl,hL',I.clean ks,B⟩
 |.seq p q,c,F,S,g,a,w,Q,hL,h,y,G,E=>by
  cases c<;>simp only[codeOk,AF,BM]at y;refine wp_seq (wp_mono (EK hA hRn p _ F S g a w _ hL h y.1 (fun p H=>G p (by simp[EJ,H])) E) ?_);rintro e a' w' ⟨L,F',S',g',rfl,hL',I,B⟩;cases L with
  |n=>exact EK hA hRn q _ F' S' g' a' w' _ hL' I y.2 (fun p H=>G p (by simp[EJ,H])) B|x id=>exact⟨.x id,F',S',g',rfl,hL',I,B⟩|r=>exact⟨.r,F',S',g',rfl,hL',I,B⟩
 |.cond c' kt ke t e,c,F,S,g,a,w,Q,hL,h,y,G,E=>by
  cases c with
  |cond co tc ec=>
   cases co with
   |tmp s=>
    simp only[codeOk,AF,beq_iff_eq]at y;obtain⟨⟨rfl,ht⟩,he⟩:=y;obtain⟨b,hb,ks,E⟩:=E;have hsc:Sc (.bool b) (a.eval (.tmp s)):=QP (o:=.tmp s) h hb (by simp[B9]) (fun p H=>by simp[CF]at H);refine wp_cond (t:=b) hsc ?_;cases b with
    |true=>simp only[if_true]at E ⊢;exact EK hA hRn t _ F _ g a w _ hL (h.clean ks) ht (fun p H=>G p (by simp[EJ,H])) E|false=>simp only[BM,if_false]at E ⊢;exact EK hA hRn e _ F _ g a w _ hL (h.clean ks) he (fun p H=>G p (by simp[EJ,H])) E
   |_=>simp[codeOk]at y
  |_=>simp[codeOk]at y
 |.block id b,c,F,S,g,a,w,Q,hL,h,y,G,E=>by
  cases c<;>simp only[codeOk,AF,beq_iff_eq,BM]at y;obtain⟨rfl,y⟩:=y;refine wp_block (wp_mono (EK hA hRn b _ F S g a w _ hL h y (fun p H=>G p (by simpa[EJ] using H)) E) ?_);rintro e a' w' ⟨L,F',S',g',rfl,hL',I,B⟩;cases L with
  |n=>exact⟨.n,F',S',g',rfl,hL',I,B⟩|x i=>
   simp only[Ex.exit,Exit.inBlock];dsimp only at B;split
   .rename_i hi;rw[AX hi]at B;exact⟨.n,F',S',g',rfl,hL',I,B⟩
   .rename_i hi;rw[AU hi]at B;exact⟨.x i,F',S',g',rfl,hL',I,B⟩
  |r=>exact⟨.r,F',S',g',rfl,hL',I,B⟩
 |.loop b,c,F,S,g,a,w,Q,hL,h,y,G,E=>by
  cases c<;>simp only[codeOk,BM]at y;obtain⟨n,E⟩:=E;refine wp_loop_rounds n ?_
  induction n generalizing F S g a w with
  |zero=>exact E.elim|succ n ih=>
   rw[rounds_succ];refine wp_mono (EK hA hRn b _ F S g a w _ hL h y (fun p H=>G p (by simpa[EJ] using H)) E) ?_;rintro e a' w' ⟨L,F',S',g',rfl,hL',I,B⟩;cases L with
   |n=>exact ih F' S' g' a' w' hL' I B|x id=>exact⟨.x id,F',S',g',rfl,hL',I,B⟩|r=>exact⟨.r,F',S',g',rfl,hL',I,B⟩
 |.exit id,c,F,S,g,a,w,Q,hL,h,y,G,E=>by
  cases c<;>simp only[codeOk,beq_iff_eq,BM]at y;subst y;exact wp_exit ⟨.x _,F,S,g,rfl,hL,h,E⟩
 |.ret,c,F,S,g,a,w,Q,hL,h,y,G,E=>by
  cases c<;>simp[codeOk]at y;exact wp_ret ⟨.r,F,S,g,rfl,hL,h,E⟩
 |.scope b,c,F,S,g,a,w,Q,hL,h,y,G,E=>by
  cases c with
  |scope c=>
   simp only[codeOk]at y;refine wp_scope_straight (wp_mono (EK hA hRn b _ F S g a w _ hL h y (fun p H=>G p (by simpa[EJ] using H)) E) ?_);rintro e a' w' ⟨L,F',S',g',rfl,hL',I,B⟩;cases L<;>exact⟨_,F',S',g',rfl,hL',I,B⟩
  |cond co tc ec=>
   cases co with
   |const v=>
    cases v with
    |bool t=>
     cases t with
     |true=>
      simp only[codeOk]at y;exact wp_cond (t:=true) rfl (EK hA hRn b _ F S g a w _ hL h y (fun p H=>G p (by simpa[EJ] using H)) E)
     |false=>
      simp only[codeOk]at y;exact wp_cond (t:=false) rfl (EK hA hRn b _ F S g a w _ hL h y (fun p H=>G p (by simpa[EJ] using H)) E)
    |_=>simp[codeOk]at y
   |_=>simp[codeOk]at y
  |_=>simp[codeOk]at y
 |.or p q,c,F,S,g,a,w,Q,hL,h,y,G,E=>by
  have J:codeOk F0.P F0.N c p=true/\codeOk F0.P F0.N c q=true:=by
   cases c<;>first|(simpa[codeOk] using y)|skip
   all_goals (rename_i co _ _;cases co<;>first|(simpa[codeOk] using y)|skip)
   all_goals (rename_i v;cases v<;>first|(simpa[codeOk] using y)|skip)
   all_goals (rename_i t;cases t<;>simpa[codeOk] using y)
  have X:∀x,x∈EJ c p\/x∈EJ c q->Mt F0.A F0.P x.1 x.2:=by
   intro x Z;refine G x ?_;have:EJ c (.or p q)=EJ c p++EJ c q:=by
    cases c<;>first|rfl|skip
    all_goals (rename_i co _ _;cases co<;>first|rfl|skip)
    all_goals (rename_i v;cases v<;>first|rfl|skip)
    all_goals (rename_i t;cases t<;>rfl)
   rw[this];exact CO.2 Z
  rcases E with E|E
  .exact EK hA hRn p c F S g a w Q hL h J.1 (fun x Z=>X x (.inl Z)) E
  .exact EK hA hRn q c F S g a w Q hL h J.2 (fun x Z=>X x (.inr Z)) E
 |.dead,c,F,S,g,a,w,Q,hL,h,y,G,E=>E.elim
end Lv
