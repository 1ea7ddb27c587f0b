/- The light machine is right about the program's code. -/
import Derived.Test.YtpbbmlmilagnkaaGreatLvC
import Derived.LoopN
import Derived.Scope
import Derived.OrdersHeld
set_option linter.unusedVariables false
set_option linter.unusedSimpArgs false
set_option linter.unusedSectionVars false
open Array renaming empty_append->G3,getElem?_eq_some_iff->Aj,toList_inj->Bd
open Bool renaming and_eq_true->AD,false_eq_true->A7,not_eq_true'->A8,or_eq_false_iff->Dp,or_eq_true->B6
open List renaming all_eq_true->Dg,contains_iff_mem->DZ,drop_drop->CX,getElem?_append_left->Ar,getElem?_append_right->An,getElem?_cons_zero->AI,getElem?_drop->BU,getElem?_eq_some_iff->AJ,getElem?_map->Ak,getElem?_of_mem->BE,getElem?_tail->G5,length_append->AO,length_map->AZ,mem_append->B8,mem_cons->Af,mem_map->DC,mem_of_getElem?->AX,mem_singleton->DO
open Nat renaming add_comm->JR,add_zero->CO,le_refl->AT,lt_of_lt_of_le->Az,zero_add->Ai
open Option renaming isSome_iff_exists->BG,map_eq_some_iff->AG
open Option.some renaming injEq->AB
open Prod.mk renaming injEq->Ag
namespace Lv
open Go
def ij(w:World)(R:Blk):V->Value->Prop|.v .one [x],u=>View w R x u|.p cs,u=>PD w R cs u|_,_=>False
def Ha(w:World)(R:Blk)(cs:List T)(us:List Value):Prop:=us.length=cs.length/\∀(c:Nat) x,cs[c]?=some x->∃z,us[c]?=some z/\View w R x z
def ik(w:World)(D:Nat->Blk)(cs:List T)(us:List Value):Prop:=us.length=cs.length/\∀(c:Nat) x,cs[c]?=some x->∃z,us[c]?=some z/\Own w x z (D c)
def Td(A:Nat->Nat->List Md->Prop)(P:Program)(w:World)(R:Blk)(G:Nat->Blk)(us:List Value)(md:Md)(V:V)(u:Value):Prop:=
 match md,V with
 |.v,.v sh cs=>u=mkV sh us/\Ha w R cs us/\∀c b,¬G c b|.v,.f xf caps=>(∃n cv,u=.func (.func n) #[] cv/\Mt A P n xf/\cv.size=caps.length/\∀(i:Nat) V c,caps[i]?=some V->cv[i]?=some c->ij w R V c)/\∀c b,¬G c b|.p,.p cs=>PD w R cs u/\∀c b,¬G c b|.b,.b cs=>∃blk E,u=.pointer (some ⟨blk,0,none⟩)/\w.heap[blk]?=some (.cells us.toArray E (0,0))/\Ha w R cs us/\∀c b,G c b↔c=0/\b=blk|.o,.o sh cs=>u=mkV sh us/\ik w G cs us/\∀c b,G c b->c<cs.length|.m,.m sh cs=>u=mkV sh us/\ik w G cs us/\∀c b,G c b->c<cs.length|_,_=>False
structure JD(A:Nat->Nat->List Md->Prop)(P:Program)(w:World)(R:Nat->Blk)(G:Nat->Nat->Blk)(U:Nat->List Value)(ms:List Md)(vs:List V)(us:List Value):Prop where
 K6:vs.length=ms.length
 YN:us.length=ms.length
 arg:∀(i:Nat) md V u,ms[i]?=some md->vs[i]?=some V->us[i]?=some u->Td A P w (R i) (G i) (U i) md V u
 rlt:∀i b,R i b->b<w.heap.size
 rg:∀i j c b,R i b->¬G j c b
 gg:∀i c j d b,G i c b->(i≠j\/c≠d)->¬G j d b
 out:∀i c b,G i c b->i<ms.length
def Ky(w':World)(R:Nat->Blk)(Z:Blk)(D:Nat->Nat->Blk)(U:Nat->List Value)(us:List Value):Nat->List Md->List (List T)->Prop|_,[],outs=>outs=[]|i,.b::ms,outs=>∃o os,outs=o::os/\(∃blk us' E,us[i]?=some (.pointer (some ⟨blk,0,none⟩))/\w'.heap[blk]?=some (.cells us'.toArray E (0,0))/\us'.length=(U i).length/\Ha w' (fun b=>R i b\/Z b) o us')/\Ky w' R Z D U us (i+1) ms os|i,.m::ms,outs=>∃o os,outs=o::os/\ik w' (D (i+1)) o (U i)/\Ky w' R Z D U us (i+1) ms os|i,_::ms,outs=>Ky w' R Z D U us (i+1) ms outs
def Zw(w:World)(ms:List Md)(G:Nat->Nat->Blk)(b:Nat):Prop:=w.heap.size<=b\/∃j d md,ms[j]?=some md/\md.Dy=true/\G j d b
def AJT(N:Blk)(w':World)(R:Nat->Blk)(Z:Blk)(D:Nat->Nat->Blk)(sh:Sh)(cs:List T)(v:Value):Prop:=
 match sh with
 |.ptr k=>∃blk us E,v=.pointer (some ⟨blk,0,none⟩)/\w'.heap[blk]?=some (.cells us.toArray E (0,0))/\Ha w' (fun b=>R k b\/Z b) cs us/\N blk/\¬Z blk/\∀p c,¬D p c blk|.vw k=>∃x,cs=[x]/\View w' (fun b=>R k b\/Z b) x v|sh=>∃us,v=mkV sh us/\ik w' (D 0) cs us
structure ZX(w w':World)(R:Nat->Blk)(G:Nat->Nat->Blk)(U:Nat->List Value)(ms:List Md)(us:List Value)(sh:Sh)(cs:List T)(outs:List (List T))(v:Value)(Z:Blk)(D:Nat->Nat->Blk):Prop where
 still:Still w w'
 frame:∀b,b<w.heap.size->(∀i c,¬G i c b)->w'.heap[b]?=w.heap[b]?
 z:∀b,Z b->Zw w ms G b/\b<w'.heap.size
 res:AJT (Zw w ms G) w' R Z D sh cs v
 outs:Ky w' R Z D U us 0 ms outs
 dd:∀p c q d b,D p c b->(p≠q\/c≠d)->¬D q d b
 dz:∀p c b,D p c b->¬Z b
 df:∀p c b,D p c b->Zw w ms G b
def Ct(A:Nat->Nat->List Md->Prop)(P:Program):Rel:=fun f vs sh cs outs=>
 ∀n,Mt A P n f->∀w R G U us,JD A P w R G U (Dc f) vs us ->
  Calls P n us.toArray w fun e w'=>∃v Z D,e=.returned v/\ZX w w' R G U (Dc f) us sh cs outs v Z D
def NC(ms:List Md)(es:List Ent)(i:Nat):Nat:=(FX (ms.take i) (es.take i)).length
theorem Ob{ms:List Md}{es:List Ent}:NC ms es 0=0:=by simp[NC,FX]
theorem Lp{md:Md}{ms:List Md}{e:Ent}{es:List Ent}{i:Nat}:NC (md::ms) (e::es) (i+1)=(if md.Dy=true then e.cs.length else 0)+NC ms es i:=by
 simp only[NC,List.take_succ_cons,FX,AO];split<;>simp
theorem Oi:∀{ms:List Md} {es:List Ent} {i:Nat} {md:Md} {e:Ent} {c:Nat},ms[i]?=some md->es[i]?=some e->md.Dy=true->c<e.cs.length->(FX ms es)[NC ms es i+c]?=e.cs[c]?
 | [],_,_,_,_,_,h,_,_,_=>by simp at h|_::_,[],_,_,_,_,_,h,_,_=>by simp at h|md0::ms,e0::es,0,md,e,c,h1,h2,h3,h4=>by
  grind[List.getElem?_cons_zero,Option.some.injEq,Ob,FX,List.getElem?_append_left]
 |md0::ms,e0::es,i+1,md,e,c,h1,h2,h3,h4=>by
  have ih:=Oi (ms:=ms) (es:=es) (i:=i) (c:=c) (by simpa using h1) (by simpa using h2) h3 h4
  grind[Lp,FX,List.getElem?_append_right]
theorem Oj:∀{ms:List Md} {es:List Ent} {k:Nat} {l:AN},(FX ms es)[k]?=some l->∃i md e c,ms[i]?=some md/\es[i]?=some e/\md.Dy=true/\c<e.cs.length/\k=NC ms es i+c/\e.cs[c]?=some l
 | [],_,_,_,h=>by simp[FX]at h|_::_,[],_,_,h=>by simp[FX]at h|md0::ms,e0::es,k,l,h=>by
  simp only[FX]at h;split at h
  .rename_i ht;by_cases hk:k<e0.cs.length
   .rw[Ar hk]at h;exact⟨0,md0,e0,k,rfl,rfl,ht,hk,by simp[Ob],h⟩
   .rw[An (by omega)]at h;obtain⟨i,md,e,c,h1,h2,h3,h4,h5,h6⟩:=Oj h;exact⟨i+1,md,e,c,by simpa using h1,by simpa using h2,h3,h4,by rw[Lp,if_pos ht];omega,h6⟩
  .rename_i ht;simp only[List.nil_append]at h;obtain⟨i,md,e,c,h1,h2,h3,h4,h5,h6⟩:=Oj h;exact⟨i+1,md,e,c,by simpa using h1,by simpa using h2,h3,h4,by rw[Lp,if_neg ht];omega,h6⟩
def Zu(S:St)(md:Md)(e:Ent)(cs:List T)(V:V):Prop:=
 match md with
 |.o=>V=.o e.sh (cs.take e.cs.length)|.m=>V=.m e.sh (cs.take e.cs.length)/\e.cs.all Mm=true/\Ej e.sh e.cs.length=true|md=>NK S md e=some V
theorem oB{S:St}:∀{ms:List Md} {es:List Ent} {cs:List T} {vs:List V},Gv S ms es cs=some vs->vs.length=ms.length/\es.length=ms.length/\∀(i:Nat) md e,ms[i]?=some md->es[i]?=some e->∃V,vs[i]?=some V /\
 Zu S md e (cs.drop (NC ms es i)) V
 | [],[],_,vs,h=>by simp only[Gv,AB]at h;subst h;simp| [],_::_,_,_,h=>by simp[Gv]at h|_::_,[],_,_,h=>by simp[Gv]at h|md0::ms,e0::es,cs,vs,h=>by
  have fin:∀(V0:V) (vs0:List V) (cs0:List T),vs=V0::vs0->Gv S ms es cs0=some vs0->(∀k,(cs0.drop k)=cs.drop ((if md0.Dy=true then e0.cs.length else 0)+k)) ->
   Zu S md0 e0 cs V0 ->
   vs.length=(md0::ms).length/\(e0::es).length=(md0::ms).length/\∀(i:Nat) md e,(md0::ms)[i]?=some md->(e0::es)[i]?=some e->∃V,vs[i]?=some V /\
    Zu S md e (cs.drop (NC (md0::ms) (e0::es) i)) V:=by
   intro V0 vs0 cs0 hvs hmk hdrop hm;subst hvs;obtain⟨h1,h2,h3⟩:=oB hmk;refine⟨by simp[h1],by simp[h2],?_⟩;intro i md e hmd he;cases i with
   |zero=>
    simp only[AI,AB]at hmd he;subst hmd he;refine⟨V0,rfl,?_⟩;rw[Ob,List.drop_zero];exact hm
   |succ i=>
    obtain⟨V,hV,hV2⟩:=h3 i md e (by simpa using hmd) (by simpa using he);refine⟨V,by simpa using hV,?_⟩;rw[Lp,<-hdrop];exact hV2
  simp only[Gv]at h;cases md0 with
  |o=>
   simp only at h;split at h
   .rename_i vs0 h0;exact fin _ vs0 _ (Option.some.inj h).symm h0 (fun k=>by simp[Md.Dy,CX,JR]) rfl
   .cases h
  |m=>
   simp only at h;split at h
   .rename_i hc;split at h
    .rename_i vs0 h0;exact fin _ vs0 _ (Option.some.inj h).symm h0 (fun k=>by simp[Md.Dy,CX,JR]) ⟨rfl,hc⟩
    .cases h
   .cases h
  |_=>
   simp only at h;split at h
   .rename_i v vs0 h1 h0;exact fin _ vs0 _ (Option.some.inj h).symm h0 (fun k=>by simp[Md.Dy]) h1
   .cases h
theorem SC:∀{ms:List Md} {es prev:List Ent},LM prev ms es=false->es.length=ms.length->(∀(i:Nat) md e,ms[i]?=some md->es[i]?=some e->md.writes=true->(∀p∈prev,shares e p=false)/\∀(j:Nat) e',es[j]?=some e'->i≠j->shares e e'=false)
 | [],_,_,_,_,i,md,e,h,_,_=>by simp at h|_::_,[],_,_,h,_,_,_,_,_,_=>by simp at h|md0::ms,e0::es,prev,hc,hlen,i,md,e,hmd,he,hw=>by
  simp only[LM,Dp,Bool.and_eq_false_iff]at hc;obtain⟨h1,h2⟩:=hc;have ih:=SC h2 (by simpa using hlen);cases i with
  |zero=>
   grind[List.getElem?_cons_zero,Option.some.injEq,List.any_eq_false,List.mem_of_getElem?]
  |succ i=>
   obtain⟨k1,k2⟩:=ih i md e (by simpa using hmd) (by simpa using he) hw;refine⟨fun p hp=>k1 p (by simp[hp]),?_⟩;intro j e' he' hne;cases j with
   |zero=>
    simp only[AI,AB]at he';subst he';exact k1 _ (by simp)
   |succ j=>exact k2 j e' (by simpa using he') (by omega)
theorem FQ{e e':Ent}(h:shares e e'=false){l l':AN}(hl:l∈e.cs)(hl':l'∈e'.cs):(∀r,l.BX=some r->l'.BX≠some r)/\(∀id∈names l,EN id l'=false)/\∀id∈names l',EN id l=false:=by
 grind[shares,List.any_eq_false,OE,Bool.or_eq_false_iff]
section
variable{F:Fix}{S S' S1 S2:St}{g g' g1:Gh}{a a':Act}{w w':World}
def bxL(F:Fix)(S:St)(g:Gh)(id b:Nat):Prop:=(get S.bx id).isSome/\(b=g.β id\/(∃c,Bl S (.cell id c)/\g.fp (.cell id c) b)\/F.K b)
def rdL(F:Fix)(S:St)(g:Gh):AN->Blk|.vw (.old k) _ _|.vp (.old k) _=>F.R k|.al r _|.ep r _ _|.vw (.own r _) _ _|.vp (.own r _) _=>fun b=>Bl S r/\g.fp r b|.bp id _=>bxL F S g id|.fn f caps=>fun b=>F.K b\/∃id∈names (.fn f caps),bxL F S g id b|_=>fun _=>False
theorem cD{l:AN}{b:Nat}(h:rdL F S g l b):F.K b\/(∃r,l.BX=some r/\Bl S r/\g.fp r b)\/∃id∈names l,(get S.bx id).isSome/\(b=g.β id\/∃c,Bl S (.cell id c)/\g.fp (.cell id c) b):=by
 have bx:∀id,id∈names l->bxL F S g id b->F.K b\/(∃r,l.BX=some r/\Bl S r/\g.fp r b)\/∃id∈names l,(get S.bx id).isSome/\(b=g.β id\/∃c,Bl S (.cell id c)/\g.fp (.cell id c) b):=by
  rintro id hid ⟨h1,h2|h2|h2⟩
  .grind
  .grind
  .exact .inl h2
 match l,h with
 |.vw (.old k) _ _,h=>exact .inl (F.RK k b h)|.vp (.old k) _,h=>exact .inl (F.RK k b h)|.al r _,h=>exact .inr (.inl ⟨r,rfl,h⟩)|.ep r _ _,h=>exact .inr (.inl ⟨r,rfl,h⟩)|.vw (.own r _) _ _,h=>exact .inr (.inl ⟨r,rfl,h⟩)|.vp (.own r _) _,h=>exact .inr (.inl ⟨r,rfl,h⟩)|.bp id _,h=>exact bx id (by simp[names]) h|.fn f caps,h=>
  rcases h with h|⟨id,hid,h⟩
  .exact .inl h
  .exact bx id hid h
theorem ALD(h:Inv F S g a w){l:AN}{b:Nat}(hb:rdL F S g l b):b<w.heap.size:=by
 have fl:∀r,Bl S r->g.fp r b->b<w.heap.size:=by
  rintro r ⟨x,hx⟩ hf;obtain⟨v,_,hok⟩:=h.CL r _ hx;exact Own.lt hok b hf
 rcases cD hb with hk|⟨r,_,hal,hf⟩|⟨id,_,hs,rfl|⟨c,hal,hf⟩⟩
 .exact Az (h.rlt b hk) h.size
 .exact fl r hal hf
 .obtain⟨ls,hls⟩:=BG.1 hs;obtain⟨⟨E,hE⟩,_⟩:=h.bxs id ls hls;exact(Aj.1 hE).1
 .exact fl _ hal hf
theorem View.up{B B':Blk}{x:T}{v:Value}(h:View w B x v)(hb:∀b,B b->B' b):View w B' x v:=h.mono hb fun _ _=>rfl
theorem cW(h:Inv F S g a w){fp:Blk}{l:AN}{v:Value}{x:T}(hl:BR F S g w fp l v)(hv:S.FY l=some x)(hn:∀y,l≠.ow y):View w (rdL F S g l) x v:=by
 match l,hl with
 |.t y,hl=>simp only[St.FY,AB]at hv;subst hv;exact .sc hl|.al r sub,⟨y,u,h1,h2,h3⟩=>
  simp only[St.FY,h1,AB]at hv;subst hv;obtain⟨u',hu',hown⟩:=h.CL r _ h1;rw[h2]at hu';cases hu';obtain⟨S0,hS0,hO⟩:=Mk hown h3;exact hO.view.up fun b hb=>⟨⟨_,h1⟩,hS0 b hb⟩
 |.vw (.own r p) e xs,⟨hal,⟨S0,hS0,hO⟩,_⟩=>
  simp only[St.FY,AB]at hv;subst hv;exact hO.view.up fun b hb=>⟨hal,hS0 b hb⟩
 |.vw (.old k) e xs,hl=>
  simp only[St.FY,AB]at hv;subst hv;exact hl
 |.ow y,_=>exact(hn y rfl).elim|.und,_=>simp[St.FY]at hv|.ep _ _ _,_=>simp[St.FY]at hv|.vp _ _,_=>simp[St.FY]at hv|.bp _ _,_=>simp[St.FY]at hv|.fn _ _,_=>simp[St.FY]at hv
theorem ZS{ls:List AN}{cs:List T}(h:S.FR ls=some cs):cs.length=ls.length/\∀(c:Nat) x,cs[c]?=some x->∃l,ls[c]?=some l/\S.FY l=some x:=by
 induction ls generalizing cs with
 |nil=>simp only[St.FR,AB]at h;subst h;simp|cons l ls ih=>
  grind[St.FR,List.getElem?_cons_zero,Option.some.injEq]
theorem J5{k:Nat}{ls:List AN}{cs:List T}(h:EJ k ls=some cs):cs.length=ls.length/\(∀(c:Nat) x,cs[c]?=some x->∃l,ls[c]?=some l/\LI k l=some x)/\∀l∈ls,∃x,LI k l=some x:=by
 induction ls generalizing cs with
 |nil=>simp only[EJ,AB]at h;subst h;simp|cons l ls ih=>
  grind[EJ,List.getElem?_cons_zero,Option.some.injEq]
theorem Z3{k:Nat}{l:AN}{x:T}(h:LI k l=some x):l=.t x\/∃e xs,l=.vw (.old k) e xs/\x=.sl e xs:=by
 unfold LI at h
 grind
theorem R8{k:Nat}{l:AN}{x:T}{fp:Blk}{v:Value}(h:LI k l=some x)(hl:BR F S g w fp l v):View w (F.R k) x v:=by
 rcases Z3 h with rfl|⟨e,xs,rfl,rfl⟩
 .exact .sc hl
 .exact hl
theorem ACn{ls:List AN}(h:Kv ls=true):∀l∈ls,l.BX=none:=by
 induction ls with
 |nil=>simp|cons l ls ih=>
  grind[Kv,Option.isNone_iff_eq_none]
theorem Z4(h:Inv F S g a w){id off:Nat}{ls:List AN}{cs:List T}(hls:get S.bx id=some ls)(hs:Kv ls=true)(hv:S.FR (ls.drop off)=some cs) :
 PD w (bxL F S g id) cs (.pointer (some ⟨g.β id,off,none⟩)):=by
 obtain⟨h1,h2⟩:=ZS hv;obtain⟨⟨E,hE⟩,hlen⟩:=h.bxs id ls hls;refine⟨⟨g.β id,off,none⟩,fun j=>(g.bv id).getD (off+j) undef,rfl,rfl,?_⟩;intro j x hx;obtain⟨l,hl,hvt⟩:=h2 j x hx;rw[BU]at hl;obtain⟨v,hv,hok⟩:=h.CL (.cell id (off+j)) l (by simp[St.at,hls,hl]);have hgv:(g.bv id)[off+j]?=some v:=hv;have hgd:(g.bv id).getD (off+j) undef=v:=by simp[List.getD,hgv]
 have hsome:(get S.bx id).isSome:=by simp[hls]
 refine⟨⟨hsome,.inl rfl⟩,?_,?_⟩
 .grind[World.cell?]
 .show View w (bxL F S g id) x ((g.bv id).getD (off+j) undef);rw[hgd];have hroot:=ACn hs l (AX hl)
  match l,hok,hvt with
  |.t y,hok,hvt=>simp only[St.FY,AB]at hvt;subst hvt;exact .sc hok|.ow y,hok,hvt=>
   simp only[St.FY,AB]at hvt;subst hvt;have hO:Own w y v (g.fp (.cell id (off+j))):=hok;exact hO.view.up fun b hb=>⟨hsome,.inr (.inl ⟨off+j,⟨y,by simp[St.at,hls,hl]⟩,hb⟩)⟩
  |.vw (.old k) e xs,hok,hvt=>
   simp only[St.FY,AB]at hvt;subst hvt;have hV:View w (F.R k) (.sl e xs) v:=hok;exact hV.up fun b hb=>⟨hsome,.inr (.inr (F.RK k b hb))⟩
  |.vw (.own r _) _ _,_,_=>cases hroot
  |.al r _,_,_=>cases hroot
  |.und,_,hvt=>simp[St.FY]at hvt|.ep _ _ _,_,_=>cases hroot
  |.vp _ _,_,hvt=>simp[St.FY]at hvt|.bp _ _,_,hvt=>simp[St.FY]at hvt|.fn _ _,_,hvt=>simp[St.FY]at hvt
theorem PD.up{B B':Blk}{cs:List T}{v:Value}(h:PD w B cs v)(hb:∀b,B b->B' b):PD w B' cs v:=by
 obtain⟨ad,c,h1,h2,h3⟩:=h;exact⟨ad,c,h1,h2,fun j x hx=>let ⟨k1,k2,k3⟩:=h3 j x hx;⟨hb _ k1,k2,k3.up hb⟩⟩
theorem AAb.AMi{B:Blk}{cs:List T}{v:Value}(h:AAb w B cs v):PD w B cs v:=by
 obtain⟨ad,c,f,h1,h2,h3⟩:=h;exact⟨ad,c,h1,h2,fun j x hx=>let ⟨k1,k2,k3,k4⟩:=h3 j x hx;⟨k1,k2,k4.view.up k3⟩⟩
theorem AAi{ls:List AN}{cs:List V}(h:Ur S ls=some cs):cs.length=ls.length/\∀(c:Nat) x,cs[c]?=some x->∃l,ls[c]?=some l/\AAh S l=some x:=by
 induction ls generalizing cs with
 |nil=>simp only[Ur,AB]at h;subst h;simp|cons l ls ih=>
  grind[Ur,List.getElem?_cons_zero,Option.some.injEq]
theorem AKC(h:Inv F S g a w){f:Ba}{caps:List AN}{l:AN}{V:V}{c:Value}(hl:l∈caps)(hc:AAh S l=some V)(hok:D4 F g w l c):ij w (rdL F S g (.fn f caps)) V c:=by
 unfold AAh at hc;split at hc
 .cases hc;exact .sc hok
 .rename_i k e xs;cases hc;have hV:View w (F.R k) (.sl e xs) c:=hok;exact hV.up fun b hb=>.inl (F.RK k b hb)
 .rename_i id off;split at hc
  .rename_i ls hls;split at hc
   .rename_i hs;rw[AG]at hc;obtain⟨cs,hcs,rfl⟩:=hc;have hv:c=_:=hok;subst hv;refine(Z4 h hls hs hcs).up fun b hb=>.inr ⟨id,?_,hb⟩
    simp only[names,List.mem_filterMap];exact⟨_,hl,rfl⟩
   .cases hc
  .cases hc
 .rename_i k cs;cases hc;have hV:PD w (F.R k) cs c:=hok;exact hV.up fun b hb=>.inl (F.RK k b hb)
 .cases hc
def cw(F:Fix)(S:St)(g:Gh)(md:Md)(e:Ent)(b:Nat):Prop:=
 match md with
 |.v|.p=>∃l∈e.cs,rdL F S g l b|.b=>match e with
  |⟨.one,[.bp id 0]⟩=>match get S.bx id with|some ls=>F.R (Cg ls) b|none=>False
  |_=>False
 |_=>False
theorem RY{e:Ent}{l:AN}{v:Value}(h:Rd F S g w e v)(he:e=⟨.one,[l]⟩):BR F S g w (fun _=>False) l v:=by
 subst he;obtain⟨vs,h1,h2,h3,h4⟩:=h;obtain⟨u,hu,hok⟩:=h4 0 l rfl;cases vs with
 |nil=>simp at hu|cons z zs=>
  simp only[AI,AB]at hu;subst hu;have h1':v=z:=h1;rw[h1'];exact hok
theorem AHx(h:Inv F S g a w){md:Md}{e:Ent}{V:V}{u:Value}{us:List Value}{G:Nat->Blk}(hv:NK S md e=some V)(hr:Rd F S g w e u)
 (hus:md≠.b->u=mkV e.sh us/\us.length=e.cs.length/\(∀x,AN.ow x∉e.cs)/\∀(c:Nat) (l:AN),e.cs[c]?=some l->∃u,us[c]?=some u/\BR F S g w (fun _=>False) l u)
 (hub:∀id,md=.b->e=⟨.one,[.bp id 0]⟩->us=g.bv id) (hG:md≠.b->∀c b,¬G c b) (hGb:∀id,md=.b->e=⟨.one,[.bp id 0]⟩->∀c b,G c b↔c=0/\b=g.β id) :
 Td F.A F.P w (cw F S g md e) G us md V u:=by
 unfold NK at hv;split at hv
 .split at hv
  .rename_i f caps;split at hv
   .rename_i cs hcs;cases hv;obtain⟨n,cv,k1,k2,k3,k4⟩:=RY hr rfl;obtain⟨q1,q2⟩:=AAi hcs;refine⟨⟨n,cv,k1,k2,by rw[k3,q1],?_⟩,hG (by simp)⟩;intro i V c hV hc;obtain⟨l,hl,hcap⟩:=q2 i V hV;have:=AKC h (f:=f) (AX hl) hcap (k4 i l c hl hc);have up:∀{B B':Blk},ij w B V c->(∀b,B b->B' b)->ij w B' V c:=by
     intro B B' hc hb;unfold ij at hc ⊢;split at hc
     .exact hc.up hb
     .exact hc.up hb
     .exact hc.elim
    exact up this fun b hb=>⟨.fn f caps,by simp,hb⟩
   .cases hv
  .split at hv
   .rename_i cs hcs;cases hv;obtain⟨k1,k2,k3,k4⟩:=hus (by simp);obtain⟨q1,q2⟩:=ZS hcs;refine⟨k1,⟨by rw[k2,q1],?_⟩,hG (by simp)⟩;intro c x hx;obtain⟨l,hl,hvt⟩:=q2 c x hx;obtain⟨z,hz,hok⟩:=k4 c l hl;exact⟨z,hz,(cW h hok hvt (by rintro y rfl;exact k3 y (AX hl))).up fun b hb=>⟨l,AX hl,hb⟩⟩
   .cases hv
 .split at hv
  .rename_i id off;split at hv
   .rename_i ls hls;split at hv
    .rename_i hs;split at hv
     .rename_i cs hcs;cases hv;have hu:u=_:=RY hr rfl;subst hu;exact⟨(Z4 h hls hs hcs).up fun b hb=>⟨.bp id off,by simp,hb⟩,hG (by simp)⟩
     .cases hv
    .cases hv
   .cases hv
  .rename_i s cs;cases hv;have hok:=RY hr rfl;refine⟨?_,hG (by simp)⟩;cases s with
   |own r p=>
    obtain⟨hal,hO⟩:=hok;exact hO.AMi.up fun b hb=>⟨.vp (.own r p) cs,by simp,hal,hb⟩
   |old k=>
    have hV:PD w (F.R k) cs u:=hok;exact hV.up fun b hb=>⟨.vp (.old k) cs,by simp,hb⟩
  .cases hv
 .split at hv
  .rename_i id;split at hv
   .rename_i ls hls;split at hv
    .rename_i cs hcs;cases hv;have hu:u=_:=RY hr rfl;subst hu;obtain⟨⟨E,hE⟩,hlen⟩:=h.bxs id ls hls;have hub':=hub id rfl rfl;subst hub';obtain⟨q1,q2,_⟩:=J5 hcs;refine⟨g.β id,E,rfl,hE,⟨by rw[hlen,q1],?_⟩,hGb id rfl rfl⟩;intro c x hx;obtain⟨l,hl,hb⟩:=q2 c x hx;obtain⟨v,hv,hok⟩:=h.CL (.cell id c) l (by simp[St.at,hls,hl]);refine⟨v,hv,?_⟩;exact(R8 hb hok).up fun b hb=>by simp only[cw,hls];exact hb
    .cases hv
   .cases hv
  .cases hv
 .cases hv
end
section
variable{F:Fix}{S S' S1 S2:St}{g g' g1:Gh}{a a':Act}{w w':World}
theorem Ua{r r':Bj}{x:T}(hx:S.at r=some (.ow x))(h:S.at r'=some (.t .top)):(S.out r).at r'=some (.t .top):=by
 rw[St.out,F7,Es hx];split<;>simp[h,JL,AN.BX]
theorem Yk{r:Bj}{x:T}(hx:S.at r=some (.ow x)):(S.out r).at r=some (.t .top):=by
 rw[St.out,F7,Es hx];simp[JL,AN.BX]
theorem OB:∀{ls:List AN} {S S':St} {cs:List T},Cx S ls=some (S',cs)->(∀r,S.at r=some (.t .top)->S'.at r=some (.t .top))/\∀r sub,AN.al r sub∈ls->S'.at r=some (.t .top)
 | [],S,S',cs,h=>by simp only[Cx,AB,Ag]at h;obtain⟨rfl,rfl⟩:=h;exact⟨fun _ h=>h,by simp⟩
 |l::ls,S,S',cs,h=>by
  cases l with
  |t x=>
   simp only[Cx]at h;split at h
   .cases h
   .split at h
    .rename_i S1 cs1 heq;simp only[AB,Ag]at h;obtain⟨rfl,rfl⟩:=h;obtain⟨h1,h2⟩:=OB heq;exact⟨h1,fun r sub hm=>h2 r sub (by simpa using hm)⟩
    .cases h
  |al r sub=>
   simp only[Cx]at h;split at h
   .rename_i x hx;split at h
    .rename_i S1 cs1 heq;simp only[AB,Ag]at h;obtain⟨rfl,rfl⟩:=h;obtain⟨h1,h2⟩:=OB heq;refine⟨fun r' hr'=>h1 r' (Ua hx hr'),fun r' sub' hm=>?_⟩;rcases Af.1 hm with hm|hm
     .cases hm;exact h1 r (Yk hx)
     .exact h2 r' sub' hm
    .cases h
   .cases h
  |vw s e xs=>
   cases s with
   |old k=>simp[Cx]at h|own r p=>
    cases p with
    |none=>
     simp only[Cx]at h;split at h
     .rename_i x hx;split at h
      .rename_i S1 cs1 heq;simp only[AB,Ag]at h;obtain⟨rfl,rfl⟩:=h;obtain⟨h1,h2⟩:=OB heq;exact⟨fun r' hr'=>h1 r' (Ua hx hr'),fun r' sub' hm=>h2 r' sub' (by simpa using hm)⟩
      .cases h
     .cases h
    |some q=>
     obtain⟨i,j⟩:=q;simp only[Cx]at h;split at h
     .cases h
     .split at h
      .rename_i S1 hpl;split at h
       .rename_i S2 cs1 heq;simp only[AB,Ag]at h;obtain⟨rfl,rfl⟩:=h;obtain⟨h1,h2⟩:=OB heq;obtain⟨e0,rows,hx,rfl⟩:=KK hpl;refine⟨fun r' hr'=>h1 r' ?_,fun r' sub' hm=>h2 r' sub' (by simpa using hm)⟩;rw[Kr hx];have hne:r'≠r:=by rintro rfl;rw[hx]at hr';cases hr'
        simp[hne,hr',EE]
       .cases h
      .cases h
  |_=>simp[Cx]at h
theorem Ho:∀{ls:List AN} {S S':St} {cs:List T},Cx S ls=some (S',cs)->∀r,S.at r=some (.t .top)->∀l∈ls,l.BX≠some r
 | [],_,_,_,_=>by simp|l::ls,S,S',cs,h=>by
  intro r ht l' hl';cases l with
  |t x=>
   simp only[Cx]at h;split at h
   .cases h
   .split at h
    .rename_i S1 cs1 heq;rcases Af.1 hl' with rfl|hl'
     .simp[AN.BX]
     .exact Ho heq r ht l' hl'
    .cases h
  |al r' sub=>
   simp only[Cx]at h;split at h
   .rename_i x hx;split at h
    .rename_i S1 cs1 heq;rcases Af.1 hl' with rfl|hl'
     .intro hr;cases hr;rw[ht]at hx;cases hx
     .exact Ho heq r (Ua hx ht) l' hl'
    .cases h
   .cases h
  |vw s e xs=>
   cases s with
   |old k=>simp[Cx]at h|own r' p=>
    cases p with
    |none=>
     simp only[Cx]at h;split at h
     .rename_i x hx;split at h
      .rename_i S1 cs1 heq;rcases Af.1 hl' with rfl|hl'
       .intro hr;cases hr;rw[ht]at hx;cases hx
       .exact Ho heq r (Ua hx ht) l' hl'
      .cases h
     .cases h
    |some q=>
     obtain⟨i,j⟩:=q;simp only[Cx]at h;split at h
     .cases h
     .split at h
      .rename_i S1 hpl;split at h
       .rename_i S2 cs1 heq;obtain⟨e0,rows,hx,rfl⟩:=KK hpl;rcases Af.1 hl' with rfl|hl'
        .intro hr;cases hr;rw[ht]at hx;cases hx
        .refine Ho heq r ?_ l' hl';rw[Kr hx];have hne:r≠r':=by rintro rfl;rw[hx]at ht;cases ht
         simp[hne,ht,EE]
       .cases h
      .cases h
  |_=>simp[Cx]at h
def AHl(l l':AN):Prop:=∀r,l.BX=some r->l'.BX≠some r
theorem Lt:∀{ls:List AN} {S S':St} {cs:List T},Cx S ls=some (S',cs)->ls.Pairwise AHl
 | [],_,_,_,_=>.nil|l::ls,S,S',cs,h=>by
  cases l with
  |t x=>
   simp only[Cx]at h;split at h
   .cases h
   .split at h
    .rename_i S1 cs1 heq;exact .cons (fun l' _ r hr=>by cases hr) (Lt heq)
    .cases h
  |al r' sub=>
   simp only[Cx]at h;split at h
   .rename_i x hx;split at h
    .rename_i S1 cs1 heq;refine .cons (fun l' hl' r hr=>?_) (Lt heq);cases hr;exact Ho heq _ (Yk hx) l' hl'
    .cases h
   .cases h
  |vw s e xs=>
   cases s with
   |old k=>simp[Cx]at h|own r' p=>
    cases p with
    |none=>
     simp only[Cx]at h;split at h
     .rename_i x hx;split at h
      .rename_i S1 cs1 heq;refine .cons (fun l' hl' r hr=>?_) (Lt heq);cases hr;exact Ho heq _ (Yk hx) l' hl'
      .cases h
     .cases h
    |some q=>
     obtain⟨i,j⟩:=q;simp only[Cx]at h;split at h
     .cases h
     .rename_i hon;split at h
      .split at h
       .rename_i S2 cs1 heq;refine .cons (fun l' hl' r hr=>?_) (Lt heq);cases hr;exact gV (by simpa using hon) l' hl'
       .cases h
      .cases h
  |_=>simp[Cx]at h
theorem Lw:∀{ls:List AN} {S S':St} {cs:List T},Cx S ls=some (S',cs)->∀{r:Bj} {x:T},(∀l∈ls,l.BX≠some r)->S.at r=some (.ow x)->S'.at r=some (.ow x)
 | [],S,S',cs,h,r,x,_,hx=>by simp only[Cx,AB,Ag]at h;obtain⟨rfl,rfl⟩:=h;exact hx
 |l::ls,S,S',cs,h,r,x,hn,hx=>by
  have hn':∀l∈ls,l.BX≠some r:=fun l hl=>hn l (by simp[hl])
  cases l with
  |t y=>
   simp only[Cx]at h;split at h
   .cases h
   .split at h
    .rename_i S1 cs1 heq;simp only[AB,Ag]at h;obtain⟨rfl,rfl⟩:=h;exact Lw heq hn' hx
    .cases h
  |al r' sub=>
   have hne:r≠r':=by rintro rfl;exact hn (.al r sub) (by simp) rfl
   simp only[Cx]at h;split at h
   .rename_i y hy;split at h
    .rename_i S1 cs1 heq;simp only[AB,Ag]at h;obtain⟨rfl,rfl⟩:=h;exact Lw heq hn' (vP hy hne hx)
    .cases h
   .cases h
  |vw s e xs=>
   cases s with
   |old k=>simp[Cx]at h|own r' p=>
    have hne:r≠r':=by rintro rfl;exact hn (.vw (.own r p) e xs) (by simp) rfl
    cases p with
    |none=>
     simp only[Cx]at h;split at h
     .rename_i y hy;split at h
      .rename_i S1 cs1 heq;simp only[AB,Ag]at h;obtain⟨rfl,rfl⟩:=h;exact Lw heq hn' (vP hy hne hx)
      .cases h
     .cases h
    |some q=>
     obtain⟨i,j⟩:=q;simp only[Cx]at h;split at h
     .cases h
     .split at h
      .rename_i S1 hpl;split at h
       .rename_i S2 cs1 heq;simp only[AB,Ag]at h;obtain⟨rfl,rfl⟩:=h;obtain⟨e0,rows,hy,rfl⟩:=KK hpl;exact Lw heq hn' (by rw[Kr hy,if_neg hne,hx];rfl)
       .cases h
      .cases h
  |_=>simp[Cx]at h
theorem Lu:∀{ls:List AN} {S S':St} {cs:List T},Cx S ls=some (S',cs)->∀{r:Bj} {i j e:Nat} {xs:List (List T)},AN.vw (.own r (some (i,j))) e xs∈ls->∃e0 rows,S'.at r=some (.ow (.sl e0 rows))
 | [],S,S',cs,h,r,i,j,e,xs,hm=>by simp at hm|l::ls,S,S',cs,h,r,i,j,e,xs,hm=>by
  cases l with
  |t y=>
   simp only[Cx]at h;split at h
   .cases h
   .split at h
    .rename_i S1 cs1 heq;simp only[AB,Ag]at h;obtain⟨rfl,rfl⟩:=h;exact Lu heq (by simpa using hm)
    .cases h
  |al r' sub=>
   simp only[Cx]at h;split at h
   .rename_i y hy;split at h
    .rename_i S1 cs1 heq;simp only[AB,Ag]at h;obtain⟨rfl,rfl⟩:=h;exact Lu heq (by simpa using hm)
    .cases h
   .cases h
  |vw s e1 xs1=>
   cases s with
   |old k=>simp[Cx]at h|own r' p=>
    cases p with
    |none=>
     simp only[Cx]at h;split at h
     .rename_i y hy;split at h
      .rename_i S1 cs1 heq;simp only[AB,Ag]at h;obtain⟨rfl,rfl⟩:=h;exact Lu heq (by simpa using hm)
      .cases h
     .cases h
    |some q=>
     obtain⟨i',j'⟩:=q;simp only[Cx]at h;split at h
     .cases h
     .rename_i hon;split at h
      .rename_i S1 hpl;split at h
       .rename_i S2 cs1 heq;simp only[AB,Ag]at h;obtain⟨rfl,rfl⟩:=h;rcases Af.1 hm with hm|hm
        .cases hm;obtain⟨e0,rows,hy,rfl⟩:=KK hpl;exact⟨e0,_,Lw heq (gV (by simpa using hon)) (by rw[Kr hy,if_pos rfl];rfl)⟩
        .exact Lu heq hm
       .cases h
      .cases h
  |_=>simp[Cx]at h
theorem cS:∀{ms:List Md} {es:List Ent} {i:Nat} {md:Md} {e:Ent},ms[i]?=some md->es[i]?=some e->md.Dy=true->List.Sublist e.cs (FX ms es)
 | [],_,_,_,_,h,_,_=>by simp at h|_::_,[],_,_,_,_,h,_=>by simp at h|md0::ms,e0::es,0,md,e,h1,h2,h3=>by
  grind[List.getElem?_cons_zero,Option.some.injEq,FX,List.sublist_append_left]
 |md0::ms,e0::es,i+1,md,e,h1,h2,h3=>by
  simp only[FX];exact(cS (i:=i) (by simpa using h1) (by simpa using h2) h3).trans (List.sublist_append_right _ _)
structure Blank(S S2:St)(ms:List Md)(es:List Ent):Prop where
 tm:S2.tm=S.tm
 pin:S2.pin=S.pin
 bx:∀id ls',get S2.bx id=some ls'->∃ls,get S.bx id=some ls/\ls'.length=ls.length
 ow:∀r x,S2.at r=some (.ow x)↔S.at r=some (.ow x)
 top:∀r,S.at r=some (.t .top)->S2.at r=some (.t .top)
 all:∀(i:Nat) id,ms[i]?=some Md.b->es[i]?=some ⟨.one,[.bp id 0]⟩->∀ls,get S2.bx id=some ls->∀l∈ls,l=.t .top
theorem Up:∀(ms:List Md) (es:List Ent) (S:St),Inv F S g a w->(∀(i:Nat) id,ms[i]?=some Md.b->es[i]?=some ⟨.one,[.bp id 0]⟩->∀c,¬Bl S (.cell id c))->Inv F (De S ms es) g a w/\Blank S (De S ms es) ms es
 | [],es,S,h,_=>by
  have:De S [] es=S:=by cases es<;>rfl
  rw[this];exact⟨h,rfl,rfl,fun _ ls hl=>⟨ls,hl,rfl⟩,fun _ _=>Iff.rfl,fun _ h=>h,by intro i id hm;simp at hm⟩
 |md::ms,[],S,h,_=>by
  exact⟨h,rfl,rfl,fun _ ls hl=>⟨ls,hl,rfl⟩,fun _ _=>Iff.rfl,fun _ h=>h,by intro i id _ hm;simp at hm⟩
 |md::ms,e::es,S,h,hb=>by
  have hb':∀(i:Nat) id,ms[i]?=some Md.b->es[i]?=some ⟨.one,[.bp id 0]⟩->∀c,¬Bl S (.cell id c):=fun i id h1 h2=>hb (i+1) id (by simpa using h1) (by simpa using h2)
  have pass:(∀id,md=.b->e=⟨.one,[.bp id 0]⟩->get S.bx id=none)->Inv F (De S ms es) g a w/\Blank S (De S ms es) (md::ms) (e::es):=by
   intro hno;obtain⟨h1,h2⟩:=Up ms es S h hb';refine⟨h1,h2.tm,h2.pin,h2.bx,h2.ow,h2.top,?_⟩;intro i id hm he ls hls;cases i with
   |zero=>
    simp only[AI,AB]at hm he;obtain⟨ls0,h0,_⟩:=h2.bx id ls hls;rw[hno id hm he]at h0;cases h0
   |succ i=>exact h2.all i id (by simpa using hm) (by simpa using he) ls hls
  simp only[De];split
  .split
   .rename_i id;split
    .rename_i ls hls;have hdead:=hb 0 id rfl rfl
     let S1:St:={ S with bx:=put S.bx id (ls.map fun _=>AN.t .top)}
     have hat:∀r,S1.at r=match r with|.cell b c=>if b=id then (ls.map fun _=>AN.t .top)[c]? else S.at (.cell b c)|.tmp s c=>S.at (.tmp s c):=Jd
     have how:∀r x,S1.at r=some (.ow x)↔S.at r=some (.ow x):=by
      intro r x;rw[hat];cases r with
      |tmp s c=>exact Iff.rfl|cell b c=>
       by_cases hbd:b=id
       .subst hbd;simp only[if_true];constructor
        .intro hh;rw[Ak,AG]at hh;obtain⟨_,_,hh⟩:=hh;cases hh
        .intro hh;exact absurd ⟨x,hh⟩ (hdead c)
       .simp[hbd]
     have hI:Inv F S1 g a w:=by
      refine h.weaken (fun s e' he'=>⟨e',he',rfl,rfl⟩) ?_ ?_ rfl
      .intro id' ls' hl';have:get (put S.bx id (ls.map fun _=>AN.t .top)) id'=some ls':=hl';rw[ES]at this;split at this
       .rename_i heq;subst heq;cases this;exact⟨ls,hls,by simp⟩
       .exact⟨ls',this,rfl⟩
      .intro r l' hl';have key:∀r1 x,S.at r1=some (.ow x)->S1.at r1=some (.ow x):=fun r1 x hx=>(how r1 x).2 hx
       rw[hat]at hl';cases r with
       |tmp s c=>exact .inr ⟨hl',fun r1 x _ hx=>key r1 x hx⟩|cell b c=>
        by_cases hbd:b=id
        .subst hbd;simp only[if_true]at hl';rw[Ak,AG]at hl';obtain⟨l0,h0,rfl⟩:=hl';exact .inl ⟨rfl,by simp[St.at,hls,h0]⟩
        .simp only[if_neg hbd]at hl';exact .inr ⟨hl',fun r1 x _ hx=>key r1 x hx⟩
     obtain⟨h1,h2⟩:=Up ms es S1 hI (by
      intro i id' hm he c hal;obtain⟨x,hx⟩:=hal;exact hb' i id' hm he c ⟨x,(how _ x).1 hx⟩)
     have htop:∀r,S.at r=some (.t .top)->S1.at r=some (.t .top):=by
      intro r hr;rw[hat];cases r with
      |tmp s c=>exact hr|cell b c=>
       by_cases hbd:b=id
       .subst hbd;simp only[St.at,hls]at hr;simp[hr]
       .simp only[if_neg hbd];exact hr
     have hbx:∀id' ls',get S1.bx id'=some ls'->∃ls,get S.bx id'=some ls/\ls'.length=ls.length:=by
      intro id' ls' hl';have:get (put S.bx id (ls.map fun _=>AN.t .top)) id'=some ls':=hl';rw[ES]at this;split at this
      .rename_i heq;subst heq;cases this;exact⟨ls,hls,by simp⟩
      .exact⟨ls',this,rfl⟩
     refine⟨h1,h2.tm,h2.pin,?_,fun r x=>(h2.ow r x).trans (how r x),fun r hr=>h2.top r (htop r hr),?_⟩
     .intro id' ls' hl';obtain⟨l1,k1,k2⟩:=h2.bx id' ls' hl';obtain⟨l0,k3,k4⟩:=hbx id' l1 k1;exact⟨l0,k3,k2.trans k4⟩
     .intro i id' hm he ls' hl' l hl;cases i with
      |zero=>
       simp only[AI,AB]at he;cases he;obtain⟨l1,k1,k2⟩:=h2.bx id ls' hl';have hg:get S1.bx id=some (ls.map fun _=>AN.t .top):=by
        show get (put S.bx id (ls.map fun _=>AN.t .top)) id=_;rw[ES,if_pos rfl]
       rw[hg]at k1;cases k1;obtain⟨c,hc⟩:=BE hl;have hlt:c<ls'.length:=(AJ.1 hc).1;have h3:S1.at (.cell id c)=some (.t .top):=by
        rw[hat];simp only[if_true];have hc0:c<ls.length:=by rw[k2]at hlt;simpa using hlt
        simp[hc0]
       have h4:=h2.top _ h3;have hl2:get (De S1 ms es).bx id=some ls':=hl';simp only[St.at,hl2,hc,AB]at h4;exact h4
      |succ i=>exact h2.all i id' (by simpa using hm) (by simpa using he) ls' hl' l hl
    .rename_i hls;exact pass fun id' _ he=>by cases he;exact hls
   .rename_i hne;exact pass fun id' _ he=>absurd he (hne id')
  .rename_i hne;exact pass fun id' hm _=>absurd hm hne
def AMY(F:Fix)(S S2:St)(g:Gh)(w:World)(R:Nat->Blk)(G:Nat->Nat->Blk)(U:Nat->List Value)(us:List Value)(i:Nat)(md:Md)(e:Ent):Prop:=
 (match md with
 |.b=>∃id ls,e=⟨.one,[.bp id 0]⟩/\get S.bx id=some ls/\R i=F.R (Cg ls)/\U i=g.bv id/\(∀c b,G i c b↔c=0/\b=g.β id)/\us[i]?=some (.pointer (some ⟨g.β id,0,none⟩)) /\
  (∀ls,get S2.bx id=some ls->∀l∈ls,l=.t .top)
 |.m=>(U i).length=e.cs.length/\e.cs.Pairwise AHl/\∀(c:Nat) l,e.cs[c]?=some l->Mm l=true/\∃z,(U i)[c]?=some z/\BR F S g w (fun _=>False) l z/\(∀r sub,l=.al r sub->S2.at r=some (.t .top)) /\
  ∀r p e xs,l=.vw (.own r (some p)) e xs->Bl S2 r
 |_=>True)/\(md≠.p->∀lab,YI S e=some lab->∀b,R i b->F.R lab b)
def Zs(S:St)(g:Gh)(ms:List Md)(es:List Ent)(b:Nat):Prop:=
 ∃(i:Nat) (md:Md) (e:Ent),ms[i]?=some md/\es[i]?=some e/\md.writes=true/\((∃id,e=⟨.one,[.bp id 0]⟩/\(get S.bx id).isSome/\b=g.β id)\/∃l r,l∈e.cs/\l.BX=some r/\Bl S r/\g.fp r b)
theorem AAS:∀(es:List Ent) (us:List Value),us.length=es.length->(∀(i:Nat) e,es[i]?=some e->∃u,us[i]?=some u/\Rd F S g w e u) ->
 ∃Us:List (List Value),Us.length=es.length/\∀(i:Nat) e,es[i]?=some e->∃u xs,us[i]?=some u/\Us[i]?=some xs/\u=mkV e.sh xs/\xs.length=e.cs.length/\(∀x,AN.ow x∉e.cs) /\
  ∀(c:Nat) (l:AN),e.cs[c]?=some l->∃z,xs[c]?=some z/\BR F S g w (fun _=>False) l z
 | [],us,hl,_=>⟨[],rfl,by simp⟩|e::es,[],hl,_=>by simp at hl|e::es,u::us,hl,h=>by
  obtain⟨Us,h1,h2⟩:=AAS es us (by simpa using hl) (fun i e he=>by simpa using h (i+1) e (by simpa using he));obtain⟨u',hu',vs,k1,k2,k3,k4⟩:=h 0 e rfl;simp only[AI,AB]at hu';subst hu';refine⟨vs::Us,by simp[h1],?_⟩;intro i e' he';cases i with
  |zero=>
   grind[List.getElem?_cons_zero,Option.some.injEq]
  |succ i=>simpa using h2 i e' (by simpa using he')
theorem pU:∀(ms:List Md) (es:List Ent) (Us:List (List Value)),es.length=ms.length->Us.length=es.length->(∀(i:Nat) e xs,es[i]?=some e->Us[i]?=some xs->xs.length=e.cs.length) ->
 ∃lv:List Value,lv.length=(FX ms es).length/\∀(i:Nat) md e xs c,ms[i]?=some md->es[i]?=some e->Us[i]?=some xs->md.Dy=true->c<e.cs.length->lv[NC ms es i+c]?=xs[c]?
 | [],_,_,_,_,_=>⟨[],by simp[FX],by simp⟩|_::_,[],_,h,_,_=>by simp at h|_::_,_::_,[],_,h,_=>by simp at h|md::ms,e::es,xs::Us,h1,h2,h3=>by
  obtain⟨lv,k1,k2⟩:=pU ms es Us (by simpa using h1) (by simpa using h2) (fun i e xs he hx=>h3 (i+1) e xs (by simpa using he) (by simpa using hx));have hl:=h3 0 e xs rfl rfl;refine⟨(if md.Dy=true then xs else [])++lv,?_,?_⟩
  .simp only[FX,AO,k1];split<;>simp[hl]
  .intro i md' e' xs' c hm he hx ht hc;cases i with
   |zero=>
    simp only[AI,AB]at hm he hx;subst hm he hx;rw[Ob,if_pos ht,Ai,Ar (by omega)]
   |succ i=>
    have:=k2 i md' e' xs' c (by simpa using hm) (by simpa using he) (by simpa using hx) ht hc;rw[<-this,Lp];split
    .rw[An (by omega)];congr 1;omega
    .simp
theorem AE8{e:Ent}{lab:Nat}(h:YI S e=some lab)(hne:∀id off,e≠⟨.one,[.bp id off]⟩){l:AN}(hl:l∈e.cs){b:Nat}(hb:rdL F S g l b):F.R lab b:=by
 unfold YI at h;split at h
 .grind
 .split at h
  .rename_i hs;cases h;obtain⟨cs,hcs⟩:=BG.1 hs;obtain⟨x,hx⟩:=(J5 hcs).2.2 l hl;rcases Z3 hx with rfl|⟨e',xs,rfl,_⟩
   .exact hb.elim
   .exact hb
  .cases h
theorem Uk{md:Md}{e:Ent}{b:Nat}(h:cw F S g md e b):(md.writes=false/\∃l∈e.cs,rdL F S g l b)\/F.K b:=by
 unfold cw at h;split at h
 .exact .inl ⟨rfl,h⟩
 .exact .inl ⟨rfl,h⟩
 .split at h
  .split at h
   .exact .inr (F.RK _ b h)
   .exact h.elim
  .exact h.elim
 .exact h.elim
set_option maxHeartbeats 2000000 in
theorem AHy(h:Inv F S g a w){ms:List Md}{es:List Ent}{us:List Value}{vs:List V}(hrd:∀(i:Nat) e,es[i]?=some e->∃u,us[i]?=some u/\Rd F S g w e u)(hlen:us.length=es.length)(hcl:LM [] ms es=false)
 (ha:P7 S ms es=some (S2,vs)) :
 ∃R G U g1,Gm F S S2 g g1 a w/\JD F.A F.P w R G U ms vs us/\(∀i c b md,ms[i]?=some md->md.Dy=true->G i c b->DA F S2 g1 b) /\
  (∀(i:Nat) md e,ms[i]?=some md->es[i]?=some e->AMY F S S2 g w R G U us i md e)/\(∀i c b,G i c b->Zs S g ms es b)/\es.length=ms.length:=by
 unfold P7 at ha;split at ha
 .rename_i S1 cs hown;split at ha
  .rename_i vs' hmk;simp only[AB,Ag]at ha;obtain⟨rfl,rfl⟩:=ha;obtain⟨hvl,hel,hget⟩:=oB hmk;obtain⟨Us,hUl,hU⟩:=AAS (F:=F) (S:=S) (g:=g) (w:=w) es us hlen hrd;obtain⟨lv,hlv,hlvg⟩:=pU ms es Us hel hUl (by
    intro i e xs he hx;obtain⟨u,xs',_,h2,_,h4,_⟩:=hU i e he;rw[hx]at h2;cases h2;exact h4)
   have hclash:=SC hcl hel;obtain⟨g1,hT,nf,⟨t1,t2,t3,t4,t5,t6⟩,hnf⟩:=RZ h (ls:=FX ms es) (vs:=lv) (by
    intro x hx;obtain⟨k,hk⟩:=BE hx;obtain⟨i,md,e,c,h1,h2,h3,h4,h5,h6⟩:=Oj hk;obtain⟨u,xs,_,_,_,_,hno,_⟩:=hU i e h2;exact hno x (AX h6)) hlv (by
    intro k l hk;obtain⟨i,md,e,c,h1,h2,h3,h4,rfl,h6⟩:=Oj hk;obtain⟨u,xs,_,hxs,_,_,_,hok⟩:=hU i e h2;obtain⟨z,hz,hl⟩:=hok c l h6;refine⟨z,?_,fun _ _ _=>hl,fun _=>hl⟩;rw[hlvg i md e xs c h1 h2 hxs h3 h4];exact hz) hown
   have htop:=(OB hown).2;have hbare:∀(i:Nat) id,ms[i]?=some Md.b->es[i]?=some ⟨.one,[.bp id 0]⟩->∃ls,get S.bx id=some ls/\∃cs,EJ (Cg ls) ls=some cs:=by
    intro i id hm he;obtain⟨V,_,hV⟩:=hget i _ _ hm he;simp only[Zu,NK]at hV;split at hV
    .rename_i ls hls;split at hV
     .rename_i cs hcs;exact⟨ls,hls,cs,hcs⟩
     .cases hV
    .cases hV
   have hdead:∀(i:Nat) id,ms[i]?=some Md.b->es[i]?=some ⟨.one,[.bp id 0]⟩->∀c,¬Bl S (.cell id c):=by
    rintro i id hm he c ⟨x,hx⟩;obtain⟨ls,hls,cs,hcs⟩:=hbare i id hm he;simp only[St.at,hls]at hx;obtain⟨y,hy⟩:=(J5 hcs).2.2 _ (AX hx);simp[LI]at hy
   obtain⟨hB,hBl⟩:=Up ms es S1 hT.inv (fun i id hm he c hal=>hdead i id hm he c (hT.al _ hal));have hbox:∀(i:Nat) e,ms[i]?=some Md.b->es[i]?=some e->∃id,e=⟨.one,[.bp id 0]⟩:=by
    intro i e hm he;obtain⟨V,_,hV⟩:=hget i _ _ hm he;simp only[Zu,NK]at hV;split at hV
    .rename_i id;exact⟨id,rfl⟩
    .cases hV
   let G:Nat->Nat->Blk:=fun i c b=>match ms[i]?,es[i]? with|some .b,some e=>c=0/\∃id,e=⟨.one,[.bp id 0]⟩/\b=g.β id|some .o,some e=>c<e.cs.length/\nf (NC ms es i+c) b|some .m,some e=>c<e.cs.length/\nf (NC ms es i+c) b|_,_=>False
   let R:Nat->Blk:=fun i=>match ms[i]?,es[i]? with|some md,some e=>cw F S g md e|_,_=>fun _=>False
   let U:Nat->List Value:=fun i=>match ms[i]?,es[i]? with|some .b,some ⟨.one,[.bp id 0]⟩=>g.bv id|_,_=>Us.getD i []
   have hGt:∀{i c b md e},ms[i]?=some md->es[i]?=some e->md.Dy=true->(G i c b↔c<e.cs.length/\nf (NC ms es i+c) b):=by
    intro i c b md e hm he ht;simp only[G,hm,he];cases md<;>simp[Md.Dy]at ht<;>simp
   have hGb:∀{i c b id},ms[i]?=some Md.b->es[i]?=some ⟨.one,[.bp id 0]⟩->(G i c b↔c=0/\b=g.β id):=by
    intro i c b id hm he;simp only[G,hm,he];constructor
    .rintro⟨h1,id',h2,h3⟩;cases h2;exact⟨h1,h3⟩
    .rintro⟨h1,h2⟩;exact⟨h1,id,rfl,h2⟩
   have hGn:∀{i c b},G i c b->∃md e,ms[i]?=some md/\es[i]?=some e/\md.writes=true:=by
    intro i c b hG;simp only[G]at hG;split at hG
    .rename_i e h1 h2;exact⟨_,e,h1,h2,rfl⟩
    .rename_i e h1 h2;exact⟨_,e,h1,h2,rfl⟩
    .rename_i e h1 h2;exact⟨_,e,h1,h2,rfl⟩
    .exact hG.elim
   have hUi:∀{i md e},ms[i]?=some md->es[i]?=some e->md≠.b->∃xs,Us[i]?=some xs/\U i=xs:=by
    intro i md e hm he hne;obtain⟨u,xs,_,hxs,_⟩:=hU i e he;refine⟨xs,hxs,?_⟩;simp only[U,hm,he];split
    .rename_i h1 _;cases h1;exact absurd rfl hne
    .simp[List.getD,hxs]
   have hRi:∀{i md e},ms[i]?=some md->es[i]?=some e->R i=cw F S g md e:=by
    intro i md e hm he;simp only[R,hm,he]
   have hRm:∀{i b},R i b->∃md e,ms[i]?=some md/\es[i]?=some e/\cw F S g md e b:=by
    intro i b hR;simp only[R]at hR;cases hm:ms[i]? with
    |none=>simp[hm]at hR|some md=>
     cases he:es[i]? with
     |none=>simp[hm,he]at hR|some e=>simp only[hm,he]at hR;exact⟨md,e,rfl,rfl,hR⟩
   have hcsl:cs.length=(FX ms es).length:=by rw[<-t1,hlv]
   have hidx:∀{i md e c},ms[i]?=some md->es[i]?=some e->md.Dy=true->c<e.cs.length->NC ms es i+c<cs.length:=by
    intro i md e c hm he ht hc;have:=Oi hm he ht hc;rw[List.getElem?_eq_getElem hc]at this;rw[hcsl];exact(AJ.1 this).1
   have hGw:∀{i c b e},G i c b->es[i]?=some e->(∃id,e=⟨.one,[.bp id 0]⟩/\(get S.bx id).isSome/\b=g.β id)\/∃l r,l∈e.cs/\l.BX=some r/\Bl S r/\g.fp r b:=by
    intro i c b e hG he;obtain⟨md,e',hm,he',hw⟩:=hGn hG;rw[he]at he';cases he';by_cases hmb:md=.b
    .subst hmb;obtain⟨id,rfl⟩:=hbox i e hm he;obtain⟨ls,hls,_⟩:=hbare i id hm he;exact .inl ⟨id,rfl,by simp[hls],((hGb hm he).1 hG).2⟩
    .have ht:md.Dy=true:=by cases md<;>simp_all[Md.Dy,Md.writes]
     obtain⟨hc,hn⟩:=(hGt hm he ht).1 hG;obtain⟨l,r,h1,h2,h3,h4⟩:=hnf _ b (hidx hm he ht hc) hn;rw[Oi hm he ht hc]at h1;exact .inr ⟨l,r,AX h1,h2,h3,h4⟩
   have hKb:∀{j c b e},G j c b->es[j]?=some e->¬F.K b:=by
    intro j c b e hG he hk;rcases hGw hG he with ⟨id,_,hs,rfl⟩|⟨l,r,_,_,hal,hf⟩
    .exact h.bxR id hs hk
    .exact h.Fa r hal b hf hk
   have hbpon:∀id,EN id (.bp id 0)=true:=fun id=>by simp[EN,AN.Iy]
   have rg:∀i j c b,R i b->¬G j c b:=by
    intro i j c b hR hG;obtain⟨mdj,ej,hmj,hej,hwj⟩:=hGn hG;have hRc:F.K b\/∃mdi ei,ms[i]?=some mdi/\es[i]?=some ei/\mdi.writes=false/\∃l∈ei.cs,rdL F S g l b:=by
     obtain⟨mdi,ei,h1,h2,hR⟩:=hRm hR;rcases Uk hR with ⟨hw,hR⟩|hk
     .exact .inr ⟨_,ei,h1,h2,hw,hR⟩
     .exact .inl hk
    rcases hRc with hk|⟨mdi,ei,hmi,hei,hwi,l,hl,hrl⟩
    .exact hKb hG hej hk
    .have hne:j≠i:=by
      rintro rfl;rw[hmj]at hmi;cases hmi;rw[hwj]at hwi;cases hwi
     have hsh:=(hclash j mdj ej hmj hej hwj).2 i ei hei hne;rcases cD hrl with hk|⟨r1,hr1,hal1,hf1⟩|⟨id1,hid1,hs1,hb1⟩
     .exact hKb hG hej hk
     .rcases hGw hG hej with ⟨id,rfl,hs,rfl⟩|⟨l',r,hl',hr,hal,hf⟩
      .exact h.EO r1 id hal1 hs hf1
      .by_cases hrr:r=r1
       .subst hrr;exact(FQ hsh hl' hl).1 r hr hr1
       .exact h.dis r r1 hal hal1 hrr b hf hf1
     .rcases hGw hG hej with ⟨id,rfl,hs,hbe⟩|⟨l',r,hl',hr,hal,hf⟩
      .have hoff:=(FQ hsh (l:=.bp id 0) (by simp) hl).2.2 id1 hid1;rcases hb1 with hb1|⟨c1,hal1,hf1⟩
       .have:id1=id:=h.E8 id1 id hs1 hs (hb1.symm.trans hbe);subst this;rw[hbpon]at hoff;cases hoff
       .subst hbe;exact h.EO _ id hal1 hs hf1
      .have hoff:=(FQ hsh hl' hl).2.2 id1 hid1;rcases hb1 with rfl|⟨c1,hal1,hf1⟩
       .exact h.EO r id1 hal hs1 hf
       .by_cases hrr:r=.cell id1 c1
        .subst hrr;exact KN hoff hr
        .exact h.dis r _ hal hal1 hrr b hf hf1
   have gg:∀i c j d b,G i c b->(i≠j\/c≠d)->¬G j d b:=by
    intro i c j d b hGi hne hGj;obtain⟨mdi,ei,hmi,hei,hwi⟩:=hGn hGi;obtain⟨mdj,ej,hmj,hej,hwj⟩:=hGn hGj;by_cases hij:i=j
    .subst hij;rw[hmi]at hmj;cases hmj;rw[hei]at hej;cases hej;have hcd:c≠d:=by rcases hne with h|h;exact absurd rfl h;exact h
     by_cases hmb:mdi=.b
     .subst hmb;obtain⟨id,rfl⟩:=hbox i ei hmi hei;exact hcd (((hGb hmi hei).1 hGi).1.trans ((hGb hmi hei).1 hGj).1.symm)
     .have ht:mdi.Dy=true:=by cases mdi<;>simp_all[Md.Dy,Md.writes]
      obtain⟨h1,h2⟩:=(hGt hmi hei ht).1 hGi;obtain⟨h3,h4⟩:=(hGt hmi hei ht).1 hGj;exact t6 _ _ b (hidx hmi hei ht h1) (hidx hmi hei ht h3) (by omega) h2 h4
    .have hsh:=(hclash i mdi ei hmi hei hwi).2 j ej hej hij;rcases hGw hGi hei with ⟨id,rfl,hs,rfl⟩|⟨l,r,hl,hr,hal,hf⟩
     .rcases hGw hGj hej with ⟨id',rfl,hs',hbe⟩|⟨l',r',hl',hr',hal',hf'⟩
      .have:id=id':=h.E8 id id' hs hs' hbe;subst this;have:=(FQ hsh (l:=.bp id 0) (l':=.bp id 0) (by simp) (by simp)).2.1 id (by simp[names]);rw[hbpon]at this;cases this
      .exact h.EO r' id hal' hs hf'
     .rcases hGw hGj hej with ⟨id',rfl,hs',rfl⟩|⟨l',r',hl',hr',hal',hf'⟩
      .exact h.EO r id' hal hs' hf
      .by_cases hrr:r=r'
       .subst hrr;exact(FQ hsh hl hl').1 r hr hr'
       .exact h.dis r r' hal hal' hrr b hf hf'
   have hes:∀{i:Nat} {md:Md},ms[i]?=some md->∃e,es[i]?=some e:=by
    intro i md hm;have:i<ms.length:=(AJ.1 hm).1;exact⟨es[i]'(by omega),by simp[hel,this]⟩
   have hOwn:∀{i md e},ms[i]?=some md->es[i]?=some e->md.Dy=true->ik w (G i) ((cs.drop (NC ms es i)).take e.cs.length) (U i)/\((cs.drop (NC ms es i)).take e.cs.length).length=e.cs.length:=by
    intro i md e hm he ht;obtain⟨xs,hxs,hUx⟩:=hUi hm he (by rintro rfl;simp[Md.Dy]at ht);obtain⟨u,xs',_,hxs',_,hxl,_⟩:=hU i e he;rw[hxs]at hxs';cases hxs';have hl:((cs.drop (NC ms es i)).take e.cs.length).length=e.cs.length:=by
     rw[List.length_take,List.length_drop];by_cases h0:e.cs.length=0
     .omega
     .have:=hidx hm he ht (c:=e.cs.length-1) (by omega);omega
    refine⟨⟨by rw[hUx,hxl,hl],?_⟩,hl⟩;intro c x hx;rw[List.getElem?_take]at hx;split at hx
    .rename_i hc;rw[BU]at hx;obtain⟨z,hz,ho⟩:=t2 _ x hx;rw[hlvg i md e xs c hm he hxs ht hc]at hz;exact⟨z,by rw[hUx];exact hz,ho.congr fun b=>(hGt hm he ht).trans ⟨fun h=>h.2,fun h=>⟨hc,h⟩⟩⟩
    .cases hx
   refine⟨R,G,U,g1,⟨hB,?_,?_,hBl.pin.trans hT.pin,hT.tv,hT.bv,hT.β,hT.fp⟩,⟨hvl,by rw[hlen,hel],?_,?_,rg,gg,?_⟩,?_,?_,?_,hel⟩
   .intro r x' hx';exact hT.nz r x' ((hBl.ow r x').1 hx')
   .intro id hid;obtain⟨ls,hls⟩:=BG.1 hid;obtain⟨ls0,h0,_⟩:=hBl.bx id ls hls;exact hT.bx id (by simp[h0])
   .intro i md V u hm hV hu;obtain⟨e,he⟩:=hes hm;obtain⟨V',hV',hmk1⟩:=hget i md e hm he;rw[hV]at hV';cases hV';obtain⟨u',xs,hu',hxs,hue,hxl,hno,hok⟩:=hU i e he;rw[hu]at hu';cases hu';have taken:md.Dy=true->∀{sh cs'},(V=.o sh cs'\/V=.m sh cs')->sh=e.sh->cs'=(cs.drop (NC ms es i)).take e.cs.length->u=mkV sh (U i)/\ik w (G i) cs' (U i)/\∀c b,G i c b->c<cs'.length:=by
     rintro ht sh cs' _ rfl rfl;obtain⟨o1,o2⟩:=hOwn hm he ht;obtain⟨xs',hxs',hUx⟩:=hUi hm he (by rintro rfl;simp[Md.Dy]at ht);rw[hxs]at hxs';cases hxs';exact⟨by rw[hUx];exact hue,o1,fun c b hG=>by rw[o2];exact((hGt hm he ht).1 hG).1⟩
    have other:md.Dy=false->NK S md e=some V->Td F.A F.P w (R i) (G i) (U i) md V u:=by
     intro ht hv;rw[hRi hm he];refine AHx h hv (by
      obtain⟨u',hu',hr⟩:=hrd i e he;rw[hu]at hu';cases hu';exact hr) ?_ ?_ ?_ ?_
     .intro hne;obtain⟨xs',hxs',hUx⟩:=hUi hm he hne;rw[hxs]at hxs';cases hxs';rw[hUx];exact⟨hue,hxl,hno,hok⟩
     .rintro id rfl rfl;simp only[U,hm,he]
     .intro hne c b hG;obtain⟨md',e',hm',_,hw⟩:=hGn hG;rw[hm]at hm';cases hm';cases md<;>simp[Md.Dy,Md.writes]at ht hw hne
     .rintro id rfl rfl c b;exact hGb hm he
    cases md with
    |o=>have hmk1':V=_:=hmk1;subst hmk1';exact taken rfl (.inl rfl) rfl rfl|m=>obtain⟨hmk1',_⟩:=hmk1;subst hmk1';exact taken rfl (.inr rfl) rfl rfl
    |v=>exact other rfl hmk1|p=>exact other rfl hmk1|b=>exact other rfl hmk1
   .intro i b hR;obtain⟨mdi,ei,h1,h2,hR⟩:=hRm hR;rcases Uk hR with ⟨hw,l,_,hl⟩|hk
    .exact ALD h hl
    .exact Az (h.rlt b hk) h.size
   .intro i c b hG;obtain⟨md,e,hm,_⟩:=hGn hG;exact(AJ.1 hm).1
   .intro i c b md hm ht hG;obtain⟨e,he⟩:=hes hm;obtain⟨hc,hn⟩:=(hGt hm he ht).1 hG;have hk:=hidx hm he ht hc;refine⟨t3 _ b hk hn,fun r hr=>t4 _ r b hk ?_ hn,fun id hid hbe=>t5 _ id hk ?_ (hbe▸hn)⟩
    .obtain⟨x,hx⟩:=hr;exact⟨x,(hBl.ow r x).1 hx⟩
    .obtain⟨ls,hls⟩:=BG.1 hid;obtain⟨ls0,h0,_⟩:=hBl.bx id ls hls;simp[h0]
   .intro i md e hm he;obtain⟨V',hV',hmk1⟩:=hget i md e hm he;obtain⟨u,xs,hu,hxs,hue,hxl,hno,hok⟩:=hU i e he;constructor
    .cases md with
     |v=>trivial|p=>trivial|o=>trivial|b=>
      obtain⟨id,rfl⟩:=hbox i e hm he;obtain⟨ls,hls,_⟩:=hbare i id hm he;refine⟨id,ls,rfl,hls,?_,?_,fun c b=>hGb hm he,?_,fun ls' hl'=>hBl.all i id hm he ls' hl'⟩
      .rw[hRi hm he];funext b;simp[cw,hls]
      .simp only[U,hm,he]
      .obtain⟨u',hu',hr⟩:=hrd i _ he;have:u'=_:=RY hr rfl;rw[hu',this]
     |m=>
      obtain⟨xs',hxs',hUx⟩:=hUi hm he (by simp);rw[hxs]at hxs';cases hxs';obtain⟨_,hpl,_⟩:=hmk1;refine⟨by rw[hUx];exact hxl,(Lt hown).sublist (cS hm he rfl),?_⟩;intro c l hl;obtain⟨z,hz,hlz⟩:=hok c l hl;have hmem:l∈FX ms es:=by
       have hc:c<e.cs.length:=(AJ.1 hl).1;have:=Oi hm he (by rfl) hc;rw[hl]at this;exact AX this
      refine⟨(Dg.1 hpl) l (AX hl),z,by rw[hUx];exact hz,hlz,?_,?_⟩
      .rintro r sub rfl;exact hBl.top r (htop r sub hmem)
      .rintro r ⟨i',j'⟩ e' xs' rfl;obtain⟨e0,rows,hx⟩:=Lu hown hmem;exact⟨_,(hBl.ow r _).2 hx⟩
    .intro hmd lab hlab b hR;rw[hRi hm he]at hR;cases md with
     |v=>
      obtain⟨l,hl,hrl⟩:=hR;refine AE8 hlab ?_ hl hrl;rintro id off rfl;simp[Zu,NK,St.FR,St.FY]at hmk1
     |p=>exact absurd rfl hmd|o=>exact hR.elim|m=>exact hR.elim|b=>
      obtain⟨id,rfl⟩:=hbox i e hm he;obtain⟨ls,hls,_⟩:=hbare i id hm he;simp only[cw,hls]at hR;simp only[YI,hls]at hlab;split at hlab
      .cases hlab;exact hR
      .cases hlab
   .intro i c b hG;obtain⟨md,e,hm,he,hw⟩:=hGn hG;exact⟨i,md,e,hm,he,hw,hGw hG he⟩
  .cases ha
 .cases ha
end
section
variable{F:Fix}{S S' S1 S2:St}{g g' g1:Gh}{a a':Act}{w w':World}
def Fix.ext(F:Fix)(Z:Blk)(w:World):Fix:=
 { F with R:=fun k b=>F.R k b\/Z b,K:=fun b=>F.K b\/Z b,RK:=fun k b h=>h.elim (fun h=>.inl (F.RK k b h)) .inr,w0:=w}
theorem D4.ext{l:AN}{v:Value}{Z:Blk}{w1:World}(h:D4 F g w l v):D4 (F.ext Z w1) g w l v:=by
 match l,h with
 |.t _,h=>exact h|.und,h=>exact h|.vw (.old k) e xs,h=>
  have hV:View w (F.R k) (.sl e xs) v:=h;exact hV.up fun b hb=>.inl hb
 |.vp (.old k) cs,h=>
  have hV:PD w (F.R k) cs v:=h;exact hV.up fun b hb=>.inl hb
 |.bp _ _,h=>exact h
theorem BR.ext{fp:Blk}{l:AN}{v:Value}{Z:Blk}{w1:World}(h:BR F S g w fp l v):BR (F.ext Z w1) S g w fp l v:=by
 match l,h with
 |.ow _,h=>exact h|.al _ _,h=>exact h|.ep _ _ _,h=>exact h|.vw (.own _ _) _ _,h=>exact h|.vp (.own _ _) _,h=>exact h|.fn f caps,⟨n,cv,h1,h2,h3,h4⟩=>exact⟨n,cv,h1,h2,h3,fun i l c hl hc=>(h4 i l c hl hc).ext⟩|.t x,h=>exact D4.ext (F:=F) (g:=g) (w:=w) (Z:=Z) (w1:=w1) (l:=.t x) h|.und,h=>exact D4.ext (F:=F) (g:=g) (w:=w) (Z:=Z) (w1:=w1) (l:=.und) h|.vw (.old k) e xs,h=>exact D4.ext (F:=F) (g:=g) (w:=w) (Z:=Z) (w1:=w1) (l:=.vw (.old k) e xs) h|.vp (.old k) cs,h=>exact D4.ext (F:=F) (g:=g) (w:=w) (Z:=Z) (w1:=w1) (l:=.vp (.old k) cs) h|.bp i o,h=>exact D4.ext (F:=F) (g:=g) (w:=w) (Z:=Z) (w1:=w1) (l:=.bp i o) h
theorem Inv.ext(h:Inv F S g a w){Z:Blk}(hZ:∀b,Z b->b<w.heap.size/\(∀r,Bl S r->¬g.fp r b)/\∀id,(get S.bx id).isSome->b≠g.β id):Inv (F.ext Z w) S g a w where
 CL r l hl:=let ⟨v,hv,hok⟩:=h.CL r l hl;⟨v,hv,hok.ext⟩
 tms:=h.tms
 bxs:=h.bxs
 dis:=h.dis
 EO:=h.EO
 Fa r hr b hb hk:=by
  rcases hk with hk|hz
  .exact h.Fa r hr b hb hk
  .exact(hZ b hz).2.1 r hr hb
 E8:=h.E8
 bxR id hid hk:=by
  rcases hk with hk|hz
  .exact h.bxR id hid hk
  .exact(hZ _ hz).2.2 id hid rfl
 EM _ _:=rfl
 rlt b hk:=by
  rcases hk with hk|hz
  .exact Az (h.rlt b hk) h.size
  .exact(hZ b hz).1
 still:=.refl
 defs:=h.defs
 tsz:=h.tsz
 pin:=h.pin
theorem Inv.called(h:Inv F S g a w){B:Nat->Prop}{nb:Nat->List Value}(hs:Still w w')
 (hw:∀b,b<w.heap.size->(F.K b\/(∃r,Bl S r/\g.fp r b)\/∃id,(get S.bx id).isSome/\¬B id/\b=g.β id)->w'.heap[b]?=w.heap[b]?)
 (hB:∀id ls,B id->get S.bx id=some ls->(∀l∈ls,l=.t .top)/\∃E,w'.heap[g.β id]?=some (.cells (nb id).toArray E (0,0))/\(nb id).length=(g.bv id).length)
 (hn:∀id,¬B id->nb id=g.bv id):Inv F S { g with bv:=nb} a w':=by
 have hR:∀b,F.K b->w'.heap[b]?=w.heap[b]?:=fun b hb=>hw b (Az (h.rlt b hb) h.size) (.inl hb)
 have hfp:∀r,Bl S r->∀b,g.fp r b->w'.heap[b]?=w.heap[b]?:=by
  intro r hr b hb;obtain⟨x,hx⟩:=hr;obtain⟨v,_,hok⟩:=h.CL r _ hx;exact hw b (Own.lt hok b hb) (.inr (.inl ⟨r,⟨x,hx⟩,hb⟩))
 have hdead:∀id c x,B id->S.at (.cell id c)≠some (.ow x):=by
  intro id c x hb hx;cases hls:get S.bx id with
  |none=>simp[St.at,hls]at hx|some ls=>
   simp only[St.at,hls]at hx;have:=(hB id ls hb hls).1 _ (AX hx);cases this
 have hrv:∀r,Bl S r->({ g with bv:=nb}:Gh).rv r=g.rv r:=by
  rintro r ⟨x,hx⟩;cases r with
  |tmp s c=>rfl|cell id c=>
   have:¬B id:=fun hb=>hdead id c x hb hx
   simp[Gh.rv,hn id this]
 refine { CL:=?_,tms:=h.tms,bxs:=?_,dis:=h.dis,EO:=h.EO,Fa:=h.Fa,E8:=h.E8,bxR:=h.bxR,EM:=?_,rlt:=h.rlt,still:=h.still.trans hs,defs:=h.defs,tsz:=h.tsz,pin:=h.pin}
 .intro r l hl;obtain⟨v,hv,hok⟩:=h.CL r l hl;by_cases how:∃x,l=.ow x
  .obtain⟨x,rfl⟩:=how;exact⟨v,by rw[hrv r ⟨x,hl⟩];exact hv,Own.frame hok (hfp r ⟨x,hl⟩)⟩
  .have hno:∀x,l≠.ow x:=fun x hx=>how ⟨x,hx⟩
   have tr:BR F S { g with bv:=nb} w' (g.fp r) l v:=
    BR.any hno ((BR.any (fp':=fun _=>False) hno hok).tr (S':=S) (g':={ g with bv:=nb}) (w':=w') (fun r1 hr1=>⟨rfl,hrv r1 (hok.alive hr1),fun _ h=>h,hfp r1 (hok.alive hr1)⟩) (fun _ _=>rfl) (fun _ h=>h.elim) hR)
   cases r with
   |tmp s c=>exact⟨v,hv,tr⟩|cell id c=>
    by_cases hb:B id
    .cases hls:get S.bx id with
     |none=>simp[St.at,hls]at hl|some ls=>
      simp only[St.at,hls]at hl;obtain⟨k1,E,k2,k3⟩:=hB id ls hb hls;have:=k1 _ (AX hl);subst this;have hlt:c<(nb id).length:=by
       rw[k3,(h.bxs id ls hls).2];exact(AJ.1 hl).1
      exact⟨(nb id)[c],by simp[Gh.rv,hlt],BR.top⟩
    .exact⟨v,by simpa[Gh.rv,hn id hb] using hv,tr⟩
 .intro id ls hl;obtain⟨⟨E,hE⟩,h2⟩:=h.bxs id ls hl;by_cases hb:B id
  .obtain⟨k1,E',k2,k3⟩:=hB id ls hb hl;exact⟨⟨E',k2⟩,k3.trans h2⟩
  .refine⟨⟨E,?_⟩,by rw[show ({ g with bv:=nb}:Gh).bv id=g.bv id from hn id hb];exact h2⟩;rw[show ({ g with bv:=nb}:Gh).bv id=g.bv id from hn id hb];exact(hw _ (Aj.1 hE).1 (.inr (.inr ⟨id,by simp[hl],hb,rfl⟩))).trans hE
 .intro b hb;exact(hR b hb).trans (h.EM b hb)
theorem Own.fill{e:Nat}{rows:List (List T)}{blk off len cap:Nat}{fp D:Blk}{i j:Nat}{x y:T}{z:Value}(h:Own w (.sl e rows) (.slice (some ⟨blk,off,none⟩) len cap) fp)(hy:at2 rows i j=some y)
 (hz:w.cell? ⟨blk,off+i*e+j,none⟩=some z) (ho:Own w x z D) (hD:∀b,D b->¬fp b) :
 ∃fp':Blk,Own w (.sl e (Gy rows i j x)) (.slice (some ⟨blk,off,none⟩) len cap) fp'/\∀b,fp' b->fp b\/D b:=by
 cases h with
 |sc h _ _=>exact h.elim|sl c f h1 h2 h3 h4 h5 h6 h7 h8 h9 h10=>
  have hc:c i j=z:=by
   rw[h4.cell,h6 i j y hy]at hz;exact Option.some.inj hz
  subst hc;have hi:=cz hy;have hblk:fp _:=(h10 _).2 (.inl rfl);have hat:∀i' j' x',at2 (Gy rows i j x) i' j'=some x'->(i'=i/\j'=j/\x'=x)\/(¬(i'=i/\j'=j)/\at2 rows i' j'=some x'):=by
   intro i' j' x' hx;rw[jD hy]at hx;split at hx
   .rename_i hh;exact .inl ⟨hh.1,hh.2,(Option.some.inj hx).symm⟩
   .rename_i hh;exact .inr ⟨hh,hx⟩
  refine⟨fun b=>b=_\/∃i' j' x',at2 (Gy rows i j x) i' j'=some x'/\(if i'=i/\j'=j then D else f i' j') b,
   .sl c (fun i' j'=>if i'=i/\j'=j then D else f i' j') (by rw[MA];exact h1) h2 (cL h3 hi) h4 h5 ?_ ?_ ?_ ?_ (fun b=>Iff.rfl),?_⟩
  .intro i' j' x' hx;rcases hat i' j' x' hx with ⟨rfl,rfl,rfl⟩|⟨hh,hx'⟩
   .exact h6 _ _ _ hy
   .exact h6 _ _ _ hx'
  .intro i' j' x' hx;rcases hat i' j' x' hx with ⟨rfl,rfl,rfl⟩|⟨hh,hx'⟩
   .simpa using ho
   .rw[if_neg hh];exact h7 _ _ _ hx'
  .intro i' j' x' hx;rcases hat i' j' x' hx with ⟨rfl,rfl,rfl⟩|⟨hh,hx'⟩
   .simp only[and_self,if_true];exact fun hb=>hD _ hb hblk
   .rw[if_neg hh];exact h8 _ _ _ hx'
  .grind
  .grind
structure H8(S S':St)(g g':Gh)(N:Blk)(ok:Bj->Prop):Prop where
 tv:g'.tv=g.tv
 bv:g'.bv=g.bv
 β:g'.β=g.β
 fp:∀r,Bl S' r->∀b,g'.fp r b->(Bl S r/\g.fp r b)\/N b
 pin:S'.pin=S.pin
 bx:∀id ls',get S'.bx id=some ls'->∃ls,get S.bx id=some ls/\ls'.length=ls.length
 bx2:∀id ls,get S.bx id=some ls->∃ls',get S'.bx id=some ls'
 top:∀r,¬ok r->S.at r=some (.t .top)->S'.at r=some (.t .top)
 ow:∀r x,¬ok r->S'.at r=some (.ow x)->S.at r=some (.ow x)
 al:∀r,Bl S' r->Bl S r\/ok r
theorem H8.rv{N:Blk}{ok:Bj->Prop}(h:H8 S S' g g' N ok)(r:Bj):g'.rv r=g.rv r:=by cases r<;>simp[Gh.rv,h.tv,h.bv]
theorem H8.refl:H8 S S g g (fun _=>False) (fun _=>False):=⟨rfl,rfl,rfl,fun _ hr _ h=>.inl ⟨hr,h⟩,rfl,fun _ ls h=>⟨ls,h,rfl⟩,fun _ ls h=>⟨ls,h⟩,fun _ _ h=>h,fun _ _ _ h=>h,fun _ h=>.inl h⟩
theorem H8.trans{g2:Gh}{N N':Blk}{ok ok':Bj->Prop}(h:H8 S S' g g' N ok)(h':H8 S' S2 g' g2 N' ok'):H8 S S2 g g2 (fun b=>N b\/N' b) (fun r=>ok r\/ok' r) where
 tv:=h'.tv.trans h.tv
 bv:=h'.bv.trans h.bv
 β:=h'.β.trans h.β
 fp r hr b hb:=by
  rcases h'.fp r hr b hb with ⟨hr,hb⟩|hb
  .rcases h.fp r hr b hb with hb|hb
   .exact .inl hb
   .exact .inr (.inl hb)
  .exact .inr (.inr hb)
 pin:=h'.pin.trans h.pin
 bx id ls' hl:=let ⟨l1,k1,k2⟩:=h'.bx id ls' hl;let ⟨l0,k3,k4⟩:=h.bx id l1 k1;⟨l0,k3,k2.trans k4⟩
 bx2 id ls hl:=let ⟨l1,k1⟩:=h.bx2 id ls hl;h'.bx2 id l1 k1
 top r hr ht:=h'.top r (fun h=>hr (.inr h)) (h.top r (fun h=>hr (.inl h)) ht)
 ow r x hr hx:=h.ow r x (fun h=>hr (.inl h)) (h'.ow r x (fun h=>hr (.inr h)) hx)
 al r hr:=by
  rcases h'.al r hr with hr|hr
  .rcases h.al r hr with hr|hr
   .exact .inl hr
   .exact .inr (.inl hr)
  .exact .inr (.inr hr)
theorem H8.mono{N N':Blk}{ok ok':Bj->Prop}(h:H8 S S' g g' N ok)(hN:∀b,N b->N' b)(hok:∀r,ok r->ok' r):H8 S S' g g' N' ok':=
 { h with fp:=fun r hr b hb=>(h.fp r hr b hb).imp id (hN b),top:=fun r hr=>h.top r fun h=>hr (hok r h),ow:=fun r x hr=>h.ow r x fun h=>hr (hok r h),al:=fun r hr=>(h.al r hr).imp id (hok r)}
theorem DA.c9{b:Nat}{N:Blk}{ok:Bj->Prop}(h:DA F S g b)(hC:H8 S S' g g' N ok)(hN:¬N b):DA F S' g' b:=by
 refine⟨h.1,fun r hr hb=>?_,fun id hid=>?_⟩
 .rcases hC.fp r hr b hb with ⟨hal,hb⟩|hb
  .exact h.2.1 r hal hb
  .exact hN hb
 .rw[hC.β];obtain⟨ls,hls⟩:=BG.1 hid;obtain⟨l0,h0,_⟩:=hC.bx id ls hls;exact h.2.2 id (by simp[h0])
theorem Inv.AEA(h:Inv F S g a w){r:Bj}{x:T}{z:Value}{D:Blk}(hr:S.at r=some (.t .top))(hz:g.rv r=some z)(ho:Own w x z D)(hD:∀b,D b->DA F S g b) :
 Inv F (S.BT r (.ow x)) { g with fp:=fun r'=>if r'=r then D else g.fp r'} a w/\H8 S (S.BT r (.ow x)) g { g with fp:=fun r'=>if r'=r then D else g.fp r'} D (fun r'=>r'=r):=by
 have hat:∀r',(S.BT r (.ow x)).at r'=if r'=r then some (.ow x) else S.at r':=fun r'=>Es hr _ r'
 have hdead:¬Bl S r:=by rintro⟨y,hy⟩;rw[hr]at hy;cases hy
 have hal:∀r',Bl (S.BT r (.ow x)) r'->r'=r\/(r'≠r/\Bl S r'):=by
  rintro r' ⟨y,hy⟩;rw[hat]at hy;split at hy
  .exact .inl (by assumption)
  .exact .inr ⟨by assumption,y,hy⟩
 have hsome:∀id,(get (S.BT r (.ow x)).bx id).isSome=(get S.bx id).isSome:=fun id=>C6
 constructor
 .refine { CL:=?_,tms:=?_,bxs:=?_,dis:=?_,EO:=?_,Fa:=?_,E8:=fun id id' h1 h2=>h.E8 id id' (by rwa[<-hsome]) (by rwa[<-hsome]),bxR:=fun id h1=>h.bxR id (by rwa[<-hsome]),EM:=h.EM,rlt:=h.rlt,still:=h.still,defs:=h.defs,tsz:=h.tsz,pin:=?_}
  .intro r' l hl;rw[hat]at hl;split at hl
   .rename_i heq;subst heq;cases hl;refine⟨z,hz,?_⟩;simp only[if_true];exact ho
   .rename_i hne;obtain⟨v,hv,hok⟩:=h.CL r' l hl;refine⟨v,hv,?_⟩;simp only[if_neg hne];refine hok.off (r:=r) ?_ ?_ ?_ (fun r''=>by cases r''<;>rfl) rfl
    .intro hroot;exact hdead (hok.alive hroot)
    .intro r'' hne' _;rw[hat,if_neg hne']
    .intro r'' hne';simp[hne']
  .intro s e he;obtain⟨e0,h1,h2,h3⟩:=KT he;obtain⟨p1,p2,p3⟩:=h.tms s e0 h1;exact⟨p1,by rw[p2,h2],by rw[p3,h3]⟩
  .intro id ls hl;obtain⟨l0,h1,h2⟩:=HU hl;obtain⟨p1,p2⟩:=h.bxs id l0 h1;exact⟨p1,by rw[p2,h2]⟩
  .intro r1 r2 h1 h2 hne b hb hb';dsimp only at hb hb';rcases hal r1 h1 with rfl|⟨n1,a1⟩
   .rw[if_pos rfl]at hb;rcases hal r2 h2 with rfl|⟨n2,a2⟩
    .exact hne rfl
    .rw[if_neg n2]at hb';exact(hD b hb).2.1 r2 a2 hb'
   .rw[if_neg n1]at hb;rcases hal r2 h2 with rfl|⟨n2,a2⟩
    .rw[if_pos rfl]at hb';exact(hD b hb').2.1 r1 a1 hb
    .rw[if_neg n2]at hb';exact h.dis r1 r2 a1 a2 hne b hb hb'
  .intro r1 id h1 hid hb;rw[hsome]at hid;dsimp only at hb;rcases hal r1 h1 with rfl|⟨n1,a1⟩
   .rw[if_pos rfl]at hb;exact(hD _ hb).2.2 id hid rfl
   .rw[if_neg n1]at hb;exact h.EO r1 id a1 hid hb
  .intro r1 h1 b hb;dsimp only at hb;rcases hal r1 h1 with rfl|⟨n1,a1⟩
   .rw[if_pos rfl]at hb;exact(hD _ hb).1
   .rw[if_neg n1]at hb;exact h.Fa r1 a1 b hb
  .intro p hp;rw[Fz]at hp;obtain⟨h1,h2⟩:=h.pin p hp;exact⟨h1,fun hs=>h2 (by rwa[<-hsome])⟩
 .refine⟨rfl,rfl,rfl,?_,Fz,?_,?_,?_,?_,?_⟩
  .intro r' hr' b hb;dsimp only at hb;rcases hal r' hr' with rfl|⟨hne,hr'⟩
   .rw[if_pos rfl]at hb;exact .inr hb
   .rw[if_neg hne]at hb;exact .inl ⟨hr',hb⟩
  .intro id ls' hl;obtain⟨l0,h1,h2⟩:=HU hl;exact⟨l0,h1,h2⟩
  .intro id ls hl;have:(get (S.BT r (.ow x)).bx id).isSome:=by rw[hsome];simp[hl]
   exact BG.1 this
  .intro r' hne ht;rw[hat,if_neg hne];exact ht
  .intro r' y hne hy;rw[hat,if_neg hne]at hy;exact hy
  .intro r' hr';rcases hal r' hr' with rfl|⟨_,hr'⟩
   .exact .inr rfl
   .exact .inl hr'
theorem Inv.AD9(h:Inv F S g a w){r:Bj}{e:Nat}{rows:List (List T)}{blk off len cap i j:Nat}{x y:T}{z:Value}{D:Blk}(hr:S.at r=some (.ow (.sl e rows)))(hu:g.rv r=some (.slice (some ⟨blk,off,none⟩) len cap))(hy:at2 rows i j=some y)
 (hz:w.cell? ⟨blk,off+i*e+j,none⟩=some z) (ho:Own w x z D) (hD:∀b,D b->DA F S g b) :
 ∃g',Inv F ((S.BT r (.ow (.sl e (Gy rows i j x)))).kill (EE r)) g' a w/\H8 S ((S.BT r (.ow (.sl e (Gy rows i j x)))).kill (EE r)) g g' D (fun r'=>r'=r):=by
 obtain⟨u',hu',hown⟩:=h.CL r _ hr;rw[hu]at hu';cases hu';obtain⟨fp',o1,o2⟩:=Own.fill hown hy hz ho (fun b hb=>(hD b hb).2.1 r ⟨_,hr⟩);have hinv:=h.gm (w':=w) (ys:=Gy rows i j x) (fp':=fp') hr hu MA Still.refl (fun _ _ _=>rfl) o1 (fun b hb=>by
  rcases o2 b hb with hb|hb
  .exact h.Fa r ⟨_,hr⟩ b hb
  .exact(hD b hb).1) (fun r' hr' hne b hb=>by
  rcases o2 b hb with hb|hb
  .exact h.dis r r' ⟨_,hr⟩ hr' (Ne.symm hne) b hb
  .exact(hD b hb).2.1 r' hr')
  (fun id hid hb=>by
   rcases o2 _ hb with hb|hb
   .exact h.EO r id ⟨_,hr⟩ hid hb
   .exact(hD _ hb).2.2 id hid rfl)
 have hal:∀r',Bl ((S.BT r (.ow (.sl e (Gy rows i j x)))).kill (EE r)) r'->Bl S r':=by
  rintro r' ⟨y',hy'⟩;obtain⟨y0,hy0,_⟩:=bz hr MA r' y' hy';exact⟨y0,hy0⟩
 refine⟨_,hinv,rfl,rfl,rfl,?_,oO,?_,?_,?_,?_,fun r' hr'=>.inl (hal r' hr')⟩
 .grind
 .grind[St.kill,CZ,Option.map_eq_some_iff,HU,D1]
 .grind[get,Gy,C6,Option.isSome_iff_exists,DS,EE,St.kill,CZ]
 .intro r' hne ht;rw[Kr hr,if_neg hne,ht];rfl
 grind[Kr,Option.map_eq_some_iff]
end
section
variable{F:Fix}{S S' S1 S2:St}{g g' g1:Gh}{a a':Act}{w w':World}
def Place(S:St)(g:Gh)(w:World)(l:AN)(z:Value):Prop:=
 match l with
 |.al r none=>S.at r=some (.t .top)/\g.rv r=some z|.vw (.own r (some (i,j))) _ _=>∃e0 n blk off len cap,g.rv r=some (.slice (some ⟨blk,off,none⟩) len cap)/\w.cell? ⟨blk,off+i*e0+j,none⟩=some z/\i<n/\j<e0/\∀e1 rows,S.at r=some (.ow (.sl e1 rows))->e1=e0/\rows.length=n|_=>True
theorem Place.c9{l:AN}{z:Value}{N:Blk}{ok:Bj->Prop}(h:Place S g w l z)(hC:H8 S S' g g' N ok)(hr:∀r,l.BX=some r->¬ok r):Place S' g' w l z:=by
 unfold Place at h ⊢;split at h
 .rename_i r;exact⟨hC.top r (hr r rfl) h.1,(hC.rv r).trans h.2⟩
 .rename_i r i j _ _;obtain⟨e0,n,blk,off,len,cap,h1,h2,h3,h4,h5⟩:=h;exact⟨e0,n,blk,off,len,cap,(hC.rv r).trans h1,h2,h3,h4,fun e1 rows hx=>h5 e1 rows (hC.ow r _ (hr r rfl) hx)⟩
 .trivial
theorem KA:∀(ls:List AN) (os:List T) (us:List Value) (D:Nat->Blk) (S S':St) (g:Gh),Inv F S g a w->FV S ls os=some S'->(∀(c:Nat) l,ls[c]?=some l->∃z,us[c]?=some z/\Place S g w l z) ->
 (∀(c:Nat) x,os[c]?=some x->∃z,us[c]?=some z/\Own w x z (D c))->(∀c b,D c b->DA F S g b)->(∀c d b,c≠d->D c b->¬D d b)->ls.Pairwise AHl ->
 ∃g',Inv F S' g' a w/\H8 S S' g g' (fun b=>∃c,D c b) (fun r=>∃l∈ls,l.BX=some r)
 | [],os,us,D,S,S',g,h,hf,_,_,_,_,_=>by
  cases os with
  |nil=>simp only[FV,AB]at hf;subst hf;exact⟨g,h,H8.refl.mono (fun _ h=>h.elim) (fun _ h=>h.elim)⟩|cons=>simp[FV]at hf
 |l::ls,[],us,D,S,S',g,h,hf,_,_,_,_,_=>by simp[FV]at hf|l::ls,o::os,us,D,S,S',g,h,hf,hp,ho,hl,hd,hdist=>by
  obtain⟨hd1,hd2⟩:=List.pairwise_cons.1 hdist;obtain⟨z,hz,hpl⟩:=hp 0 l rfl;obtain⟨z',hz',hown⟩:=ho 0 o rfl;rw[hz]at hz';cases hz';have next:∀(S1:St) (g1:Gh),Inv F S1 g1 a w->H8 S S1 g g1 (D 0) (fun r=>l.BX=some r)->FV S1 ls os=some S' ->
   ∃g',Inv F S' g' a w/\H8 S S' g g' (fun b=>∃c,D c b) (fun r=>∃l'∈l::ls,l'.BX=some r):=by
   intro S1 g1 h1 hC1 hf1;obtain⟨g2,h2,hC2⟩:=KA ls os us.tail (fun c=>D (c+1)) S1 S' g1 h1 hf1 (by
    intro c l' hl';obtain⟨z',hz',hpl'⟩:=hp (c+1) l' (by simpa using hl');exact⟨z',by rw[G5];exact hz',hpl'.c9 hC1 fun r hr hr'=>hd1 l' (AX hl') r hr' hr⟩) (by
    intro c x hx;obtain⟨z',hz',ho'⟩:=ho (c+1) x (by simpa using hx);exact⟨z',by rw[G5];exact hz',ho'⟩)
    (fun c b hb=>(hl (c+1) b hb).c9 hC1 (hd (c+1) 0 b (by omega) hb)) (fun c d b hne hb=>hd _ _ b (by omega) hb) hd2
   refine⟨g2,h2,(hC1.trans hC2).mono ?_ ?_⟩
   .rintro b (hb|⟨c,hb⟩)
    .exact⟨0,hb⟩
    .exact⟨c+1,hb⟩
   .rintro r (hr|⟨l',hl',hr⟩)
    .exact⟨l,by simp,hr⟩
    .exact⟨l',by simp[hl'],hr⟩
  simp only[FV]at hf;split at hf
  .rename_i r;obtain⟨k1,k2⟩:=hpl;obtain⟨q1,q2⟩:=h.AEA k1 k2 hown (fun b hb=>hl 0 b hb);exact next _ _ q1 (q2.mono (fun _ h=>h) (fun r' hr'=>by subst hr';rfl)) hf
  .rename_i r i j e' xs';split at hf
   .rename_i e rows hx;obtain⟨e0,n,blk,off,len,cap,k1,k2,k3,k4,k5⟩:=hpl;obtain⟨rfl,k6⟩:=k5 e rows hx;obtain⟨u,hu,hO⟩:=h.CL r _ hx;have hrow:∀row∈rows,row.length=e:=by
     have hO':Own w (.sl e rows) u (g.fp r):=hO;cases hO' with
     |sc hh _ _=>exact hh.elim|nl=>simp|sl c f p1 p2 p3=>exact p3
    obtain⟨y,hy⟩:=J2 hrow (i:=i) (j:=j) (by omega) k4;obtain⟨g1,q1,q2⟩:=h.AD9 hx k1 hy k2 hown (fun b hb=>hl 0 b hb);exact next _ _ q1 (q2.mono (fun _ h=>h) (fun r' hr'=>by subst hr';rfl)) hf
   .cases hf
  .refine next S g h ?_ hf;exact H8.refl.mono (fun _ h=>h.elim) (fun _ h=>h.elim)
  .cases hf
end
section
variable{F:Fix}{S S' S0 S1 S2:St}{g g' g1:Gh}{a a':Act}{w w':World}
theorem Nz{k:Nat}{x y:T}:DP k x≠.ow y:=by cases x<;>simp[DP]
theorem Li{k:Nat}{x:T}{v:Value}{fp:Blk}(h:View w (F.R k) x v):BR F S g w fp (DP k x) v:=by
 cases x with
 |sl e xs=>exact h|mp ks=>trivial|_=>cases h with|sc h=>exact h
theorem Inv.AIi(h:Inv F S g a w){id lab:Nat}{ls1:List AN}{o:List T}(hls:get S.bx id=some ls1)(htop:∀l∈ls1,l=.t .top)(hlen:o.length=ls1.length)(hv:Ha w (F.R lab) o (g.bv id)) :
 ∃g',Inv F { S with bx:=Lv.put S.bx id (o.map (DP lab))} g' a w/\H8 S { S with bx:=Lv.put S.bx id (o.map (DP lab))} g g' (fun _=>False) (fun r=>∃c,r=.cell id c):=by
 obtain⟨⟨E,hE⟩,hbl⟩:=h.bxs id ls1 hls;have hsome:(get S.bx id).isSome:=by simp[hls]
 have hdead:∀c x,S.at (.cell id c)≠some (.ow x):=by
  intro c x hx;simp only[St.at,hls]at hx;cases htop _ (AX hx)
 have hinv:=h.AAE (w':=w) (d:=id) (blk:=g.β id) (E:=E) (vs:=g.bv id) (ls:=o.map (DP lab)) (nf:=fun _ _=>False) Still.refl (fun _ _ _=>rfl) hE (h.bxR id hsome) (fun r hr=>h.EO r id hr hsome)
  (fun id' hne hs heq=>hne (h.E8 id' id hs hsome heq)) (.inl rfl) (fun l _ c x _ hx=>absurd hx (hdead c x)) (by rw[AZ,hlen];exact hbl) (by
   intro c l hl;rw[Ak,AG]at hl;obtain⟨x,hx,rfl⟩:=hl;obtain⟨z,hz,hV⟩:=hv.2 c x hx;exact⟨z,hz,Li hV⟩) (by
   intro c x hx;rw[Ak,AG]at hx;obtain⟨y,_,hy⟩:=hx;exact absurd hy Nz) (fun _=>⟨hsome,rfl⟩)
 have hat:∀r,(∀c,r≠.cell id c)->({ S with bx:=Lv.put S.bx id (o.map (DP lab))}:St).at r=S.at r:=by
  grind[Jd]
 have halc:∀c x,({ S with bx:=Lv.put S.bx id (o.map (DP lab))}:St).at (.cell id c)≠some (.ow x):=by
  intro c x hx;rw[Jd]at hx;simp only[if_true]at hx;rw[Ak,AG]at hx;obtain⟨y,_,hy⟩:=hx;exact Nz hy
 have hal:∀r,Bl ({ S with bx:=Lv.put S.bx id (o.map (DP lab))}:St) r->(∀c,r≠.cell id c)/\Bl S r:=by
  rintro r ⟨x,hx⟩;have hne:∀c,r≠.cell id c:=by rintro c rfl;exact halc c x hx
  exact⟨hne,x,by rw[hat r hne]at hx;exact hx⟩
 refine⟨_,hinv,rfl,?_,?_,?_,rfl,?_,?_,?_,?_,fun r hr=>.inl (hal r hr).2⟩
 .funext i;by_cases hh:i=id<;>simp[Gh.EU,hh]
 .funext i;by_cases hh:i=id<;>simp[Gh.EU,hh]
 .intro r hr b hb;obtain⟨hne,hr'⟩:=hal r hr;refine .inl ⟨hr',?_⟩;cases r with
  |tmp s c=>exact hb|cell b' c=>
   have:b'≠id:=by rintro rfl;exact hne c rfl
   simpa[Gh.EU,this] using hb
 .grind[get,Lv.put,DP,ES]
 .grind[get,Lv.put,DP,ES]
 .intro r hne ht;rw[hat r (fun c hc=>hne ⟨c,hc⟩)];exact ht
 grind
def Job(F:Fix)(S0 S:St)(g:Gh)(w:World)(R:Nat->Blk)(Z:Blk)(U:Nat->List Value)(us:List Value)(i:Nat)(md:Md)(e:Ent):Prop:=
 match md with
 |.b=>∃id ls,e=⟨.one,[.bp id 0]⟩/\get S0.bx id=some ls/\(∀b,R i b\/Z b->F.R (Cg ls) b)/\us[i]?=some (.pointer (some ⟨g.β id,0,none⟩))/\∀ls1,get S.bx id=some ls1->∀l∈ls1,l=.t .top|.m=>∀(c:Nat) l,e.cs[c]?=some l->∃z,(U i)[c]?=some z/\Place S g w l z|_=>True
theorem Job.c9{R:Nat->Blk}{Z:Blk}{U:Nat->List Value}{us:List Value}{i:Nat}{md:Md}{e:Ent}{N:Blk}{ok:Bj->Prop}(h:Job F S0 S g w R Z U us i md e)(hC:H8 S S' g g' N ok)
 (hm:∀l∈e.cs,∀r,l.BX=some r->¬ok r) (hb:∀id c,e=⟨.one,[.bp id 0]⟩->¬ok (.cell id c)):Job F S0 S' g' w R Z U us i md e:=by
 unfold Job at h ⊢;split at h
 .obtain⟨id,ls,h1,h2,h3,h4,h5⟩:=h;refine⟨id,ls,h1,h2,h3,by rw[hC.β];exact h4,?_⟩;intro ls1 hl1 l hl;obtain⟨ls0,k1,k2⟩:=hC.bx id ls1 hl1;obtain⟨c,hc⟩:=BE hl;have hlt:c<ls0.length:=by rw[<-k2];exact(AJ.1 hc).1
  have:=hC.top (.cell id c) (hb id c h1) (by simp[St.at,k1,hlt,h5 ls0 k1 ls0[c] (List.getElem_mem hlt)]);simp only[St.at,hl1,hc,AB]at this;exact this
 .intro c l hl;obtain⟨z,hz,hp⟩:=h c l hl;exact⟨z,hz,hp.c9 hC (hm l (AX hl))⟩
 .trivial
theorem wT{R:Nat->Blk}{Z:Blk}{D:Nat->Nat->Blk}{U:Nat->List Value}{us:List Value}(hdd:∀p c q d b,D p c b->(p≠q\/c≠d)->¬D q d b) :
 ∀(ms:List Md) (es:List Ent) (outs:List (List T)) (i:Nat) (S S':St) (g:Gh),Inv F S g a w->EI S0 S ms es outs=some S'->Ky w R Z D U us i ms outs ->
 (∀(k:Nat) md e,ms[k]?=some md->es[k]?=some e->Job F S0 S g w R Z U us (i+k) md e)->(∀(k:Nat) e,ms[k]?=some Md.m->es[k]?=some e->e.cs.Pairwise AHl) ->
 (∀(k k':Nat) md e e',ms[k]?=some md->es[k]?=some e->md.writes=true->es[k']?=some e'->k≠k'->shares e e'=false) ->
 (∀p c b,i+1<=p->D p c b->DA F S g b)->∃g',Inv F S' g' a w/\H8 S S' g g' (fun b=>∃p c,i+1<=p/\D p c b) (fun _=>True)
 | [],es,outs,i,S,S',g,h,hb,_,_,_,_,_=>by
  cases outs with
  |nil=>simp only[EI,AB]at hb;subst hb;exact⟨g,h,H8.refl.mono (fun _ h=>h.elim) (fun _ _=>trivial)⟩|cons=>simp[EI]at hb
 |md::ms,[],outs,i,S,S',g,h,hb,_,_,_,_,_=>by simp[EI]at hb|md::ms,e::es,outs,i,S,S',g,h,hb,hO,hJ,hP,hsh,hL=>by
  have next:∀(S1:St) (g1:Gh) (N:Blk) (ok:Bj->Prop) (os:List (List T)),Inv F S1 g1 a w->H8 S S1 g g1 N ok->EI S0 S1 ms es os=some S'->Ky w R Z D U us (i+1) ms os ->
   (∀b,N b->∃c,D (i+1) c b)->(∀(k':Nat) e',es[k']?=some e'->(∀l∈e'.cs,∀r,l.BX=some r->¬ok r)/\∀id c,e'=⟨.one,[.bp id 0]⟩->¬ok (.cell id c)) ->
   ∃g',Inv F S' g' a w/\H8 S S' g g' (fun b=>∃p c,i+1<=p/\D p c b) (fun _=>True):=by
   intro S1 g1 N ok os h1 hC1 hb1 hO1 hN hok;obtain⟨g2,h2,hC2⟩:=wT hdd ms es os (i+1) S1 S' g1 h1 hb1 hO1 (by
    intro k md' e' hm he;have:=hJ (k+1) md' e' (by simpa using hm) (by simpa using he);rw[show i+1+k=i+(k+1) by omega];exact this.c9 hC1 (hok k e' he).1 (hok k e' he).2) (fun k e' hm he=>hP (k+1) e' (by simpa using hm) (by simpa using he))
    (fun k k' md' e1 e2 hm he hw he' hne=>hsh (k+1) (k'+1) md' e1 e2 (by simpa using hm) (by simpa using he) hw (by simpa using he') (by omega)) (by
    intro p c b hp hD;refine(hL p c b (by omega) hD).c9 hC1 ?_;intro hn;obtain⟨c',hD'⟩:=hN b hn;exact hdd p c (i+1) c' b hD (.inl (by omega)) hD')
   refine⟨g2,h2,(hC1.trans hC2).mono ?_ (fun _ _=>trivial)⟩;rintro b (hb|⟨p,c,hp,hD⟩)
   .obtain⟨c,hD⟩:=hN b hb;exact⟨i+1,c,AT _,hD⟩
   .exact⟨p,c,by omega,hD⟩
  have pass:Ky w R Z D U us (i+1) ms outs->EI S0 S ms es outs=some S'->∃g',Inv F S' g' a w/\H8 S S' g g' (fun b=>∃p c,i+1<=p/\D p c b) (fun _=>True):=
   fun hO1 hb1=>next S g _ _ outs h H8.refl hb1 hO1 (fun _ h=>h.elim) (fun _ _ _=>⟨fun _ _ _ _ h=>h,fun _ _ _ h=>h⟩)
  have hj:=hJ 0 md e rfl rfl;cases md with
  |v=>exact pass hO (by simpa[EI] using hb)|p=>exact pass hO (by simpa[EI] using hb)|o=>exact pass hO (by simpa[EI] using hb)|b=>
   obtain⟨id,ls,rfl,h2,h3,h4,h5⟩:=hj;obtain⟨o,os,rfl,⟨blk,us',E,k1,k2,k3,k4⟩,hO1⟩:=hO;simp only[CO]at h3 h4;simp only[EI]at hb;split at hb
   .rename_i ls0 ls1 h0 h1;rw[h2]at h0;cases h0;split at hb
    .rename_i hlen;rw[h4]at k1;cases k1;obtain⟨⟨E',hE'⟩,_⟩:=h.bxs id ls1 h1;rw[hE']at k2;have hbv:g.bv id=us':=by
      have:=Option.some.inj k2;simp only[Obj.cells.injEq]at this;simpa using congrArg Array.toList this.1
     subst hbv;obtain⟨g1,q1,q2⟩:=h.AIi h1 (h5 ls1 h1) hlen ⟨k4.1,fun c x hx=>let ⟨z,hz,hV⟩:=k4.2 c x hx;⟨z,hz,hV.up h3⟩⟩;refine next _ g1 _ _ os q1 q2 hb hO1 (fun _ h=>h.elim) ?_;intro k' e' he';have hs:=hsh 0 (k'+1) .b _ e' rfl rfl rfl (by simpa using he') (by omega);constructor
     .rintro l hl r hr ⟨c,rfl⟩;have:=(FQ hs (l:=.bp id 0) (by simp) hl).2.1 id (by simp[names]);exact KN this hr
     .rintro id' c rfl ⟨c',hc'⟩;cases hc';have:=(FQ hs (l:=.bp id 0) (l':=.bp id 0) (by simp) (by simp)).2.1 id (by simp[names]);simp[EN,AN.Iy]at this
    .cases hb
   .cases hb
  |m=>
   obtain⟨o,os,rfl,k1,hO1⟩:=hO;simp only[EI]at hb;split at hb
   .rename_i S1 hf;simp only[Job,CO]at hj;obtain⟨g1,q1,q2⟩:=KA e.cs o (U i) (D (i+1)) S S1 g h hf hj k1.2 (fun c b hD=>hL (i+1) c b (AT _) hD) (fun c d b hne hD=>hdd _ _ _ _ b hD (.inr hne)) (hP 0 e rfl rfl);refine next _ g1 _ _ os q1 q2 hb hO1 (fun _ h=>h) ?_;intro k' e' he';have hs:=hsh 0 (k'+1) .m e e' rfl rfl rfl (by simpa using he') (by omega);constructor
    .rintro l hl r hr ⟨l0,hl0,hr0⟩;exact(FQ hs hl0 hl).1 r hr0 hr
    .rintro id c rfl ⟨l0,hl0,hr0⟩;have:=(FQ hs hl0 (l':=.bp id 0) (by simp)).2.2 id (by simp[names]);exact KN this hr0
   .cases hb
end
section
variable{F:Fix}{S S' S0 S1 S2:St}{g g' g1:Gh}{a a':Act}{w w':World}
def Fix.Le(F F':Fix):Prop:=∃Z w1,F'=F.ext Z w1/\(∀b,F.K b->w1.heap[b]?=F.w0.heap[b]?)/\Still F.w0 w1/\∀b,Z b->¬F.K b
theorem Fix.Le.refl:F.Le F:=⟨fun _=>False,F.w0,by simp[Fix.ext],fun _ _=>rfl,.refl,fun _ h=>h.elim⟩
theorem Fix.Le.trans{F1 F2:Fix}(h:F.Le F1)(h':F1.Le F2):F.Le F2:=by
 obtain⟨Z1,w1,rfl,h1,h2,h3⟩:=h;obtain⟨Z2,w2,rfl,k1,k2,k3⟩:=h';refine⟨fun b=>Z1 b\/Z2 b,w2,?_,fun b hb=>(k1 b (.inl hb)).trans (h1 b hb),h2.trans k2,?_⟩
 .simp only[Fix.ext]
  grind
 .rintro b (hb|hb)
  .exact h3 b hb
  .exact fun hk=>k3 b hb (.inl hk)
theorem Fix.Le.P{F1:Fix}(h:F.Le F1):F1.P=F.P/\F1.A=F.A/\F1.N=F.N/\F1.pv=F.pv/\F1.β0=F.β0:=by
 obtain⟨Z1,w1,rfl,_⟩:=h;exact⟨rfl,rfl,rfl,rfl,rfl⟩
theorem oI{R:Nat->Blk}{Z:Blk}{D:Nat->Nat->Blk}{U:Nat->List Value}{us:List Value}:∀(ms:List Md) (i:Nat) (outs:List (List T)),Ky w' R Z D U us i ms outs->∀(k:Nat),ms[k]?=some Md.b ->
 ∃(blk:Nat) (us':List Value) (E:TypeId),us[i+k]?=some (.pointer (some ⟨blk,0,none⟩))/\w'.heap[blk]?=some (.cells us'.toArray E (0,0))/\us'.length=(U (i+k)).length
 | [],_,_,_,k,hk=>by simp at hk|md::ms,i,outs,h,k,hk=>by
  have rcs:∀os,Ky w' R Z D U us (i+1) ms os->0<k->∃(blk:Nat) (us':List Value) (E:TypeId),us[i+k]?=some (.pointer (some ⟨blk,0,none⟩))/\w'.heap[blk]?=some (.cells us'.toArray E (0,0))/\us'.length=(U (i+k)).length:=by
   intro os ho h0;obtain⟨k',rfl⟩:∃k',k=k'+1:=⟨k-1,by omega⟩;have:=oI ms (i+1) os ho k' (by simpa using hk);rw[show i+1+k'=i+(k'+1) by omega]at this;exact this
  by_cases h0:k=0
  .subst h0;simp only[AI,AB]at hk;subst hk;obtain⟨o,os,rfl,⟨blk,us',E,k1,k2,k3,_⟩,_⟩:=h;exact⟨blk,us',E,k1,k2,k3⟩
  .cases md with
   |b=>obtain⟨o,os,rfl,_,ho⟩:=h;exact rcs os ho (by omega)
   |m=>obtain⟨o,os,rfl,_,ho⟩:=h;exact rcs os ho (by omega)
   |v=>exact rcs outs h (by omega)|p=>exact rcs outs h (by omega)|o=>exact rcs outs h (by omega)
theorem YM{x:T}{v:Value}{fp:Blk}(h:Own w x v fp):BR F S g w fp (HK x) v:=by
 cases x with
 |sl e xs=>exact h|nil=>exact h|mp ks=>exact h|_=>cases h with|sc h _ _=>exact h
theorem Inv.ALa(h:Inv F S g a w){d lab blk:Nat}{E:TypeId}{us:List Value}{cs:List T}(hd:d<F.N)(hb:Ll S d (cs.map (DP lab))=some S')(hblk:w.heap[blk]?=some (.cells us.toArray E (0,0)))(hv:Ha w (F.R lab) cs us)
 (hl:DA F S g blk):∃g',Inv F S' g' (a.put (some d) (.pointer (some ⟨blk,0,none⟩))) w:=by
 unfold Ll at hb;split at hb
 .cases hb
 .rename_i hp;cases hb;have hq:∀x,JK d (.ow x)=false:=fun x=>rfl
  have hqt:JK d (.t .top)=false:=rfl;have hk:=h.kill (JK d) hq
  let S1:=S.kill (JK d)
  have hal:∀r,Bl S1 r->Bl S r:=by
   rintro r ⟨x,hx⟩;have hx':(S.kill (JK d)).at r=some (.ow x):=hx;rw[F7,AG]at hx';obtain⟨l,hl,hl2⟩:=hx';split at hl2
   .cases hl2
   .subst hl2;exact⟨x,hl⟩
  have hsome:∀id,(get S1.bx id).isSome->(get S.bx id).isSome:=by
   intro id hid;have hid':(get (S.kill (JK d)).bx id).isSome:=hid;simpa only[St.kill,CZ,Option.isSome_map] using hid'
  have hfree:∀r l,S1.at r=some l->JK d l=false:=fun r l hl=>IV (JK d) hqt hl
  have hno:∀l,JK d l=false->d∉names l/\∀c,l.BX≠some (.cell d c):=by
   intro l hl;simp only[JK,Dp]at hl;exact⟨S7 hl.2,fun c=>KN hl.2⟩
  have hI:=hk.AAE (w':=w) (d:=d) (blk:=blk) (E:=E) (vs:=us) (ls:=cs.map (DP lab)) (nf:=fun _ _=>False) Still.refl (fun _ _ _=>rfl) hblk hl.1 (fun r hr=>hl.2.1 r (hal r hr)) (fun id _ hs heq=>hl.2.2 id (hsome id hs) heq.symm)
   (.inr ⟨fun r l hl _=>(hno l (hfree r l hl)).1,fun l hl'=>by
    obtain⟨x,_,rfl⟩:=DC.1 hl';cases x<;>simp[DP,names]⟩) (by
   rintro l (hl'|⟨r,hr,_⟩) c x hroot _
   .obtain⟨y,_,rfl⟩:=DC.1 hl';cases y<;>simp[DP,AN.BX]at hroot
   .exact absurd hroot ((hno l (hfree r l hr)).2 c)) (by simpa using hv.1) (by
   intro c l hl';rw[Ak,AG]at hl';obtain⟨x,hx,rfl⟩:=hl';obtain⟨z,hz,hV⟩:=hv.2 c x hx;exact⟨z,hz,Li hV⟩) (by
   intro c x hx;rw[Ak,AG]at hx;obtain⟨y,_,hy⟩:=hx;exact absurd hy Nz) (fun hp'=>absurd hp' hp)
  have hoff:∀{l},JK d l=false->EN d l=false/\Dr d l=false:=by
   intro l hl;simp only[JK,Dp]at hl;exact⟨hl.2,hl.1⟩
  refine⟨_,hI.put (d:=d) (e:=⟨.one,[.bp d 0]⟩) (vs:=[.pointer (some ⟨blk,0,none⟩)]) (nf:=fun _ _=>False) hd hp ?_ ?_ ?_⟩
  .intro r l hl _;rw[Jd]at hl;cases r with
   |tmp s c=>exact(hoff (hfree _ _ hl)).2|cell b c=>
    simp only at hl;split at hl
    .rw[Ak,AG]at hl;obtain⟨y,_,rfl⟩:=hl;cases y<;>simp[DP,Dr,AN.BX]
    .exact(hoff (hfree _ _ hl)).2
  .simp[Dr,AN.BX]
  .refine Cells.free rfl ?_ (by simp);intro c l hl;cases c with|zero=>simp only[AI,AB]at hl;subst hl;exact⟨_,rfl,by show _=_;simp[Gh.EU]⟩|succ c=>simp at hl
theorem DA.fresh(h:Inv F S g a w){b:Nat}(hb:w.heap.size<=b):DA F S g b:=by
 refine⟨fun hk=>?_,fun r hr hf=>?_,fun id hid he=>?_⟩
 .have:=h.rlt b hk;have:=h.size;omega
 .obtain⟨x,hx⟩:=hr;obtain⟨v,_,hok⟩:=h.CL r _ hx;have:=Own.lt hok b hf;omega
 .obtain⟨ls,hls⟩:=BG.1 hid;obtain⟨⟨E,hE⟩,_⟩:=h.bxs id ls hls;have:=(Aj.1 hE).1;omega
set_option maxHeartbeats 1000000 in
theorem AH8(h:Inv F S g a w){d:Nat}{f:Ba}{es:List Ent}{us:List Value}{vs:List V}{sh:Sh}{cs:List T}{outs:List (List T)}(hd:d<F.N)(hrd:∀(i:Nat) e,es[i]?=some e->∃u,us[i]?=some u/\Rd F S g w e u)(hlen:us.length=es.length)
 (hpre:pre f es S=some (S1,vs)) (hpost:post d f es S S1 sh cs outs=some S2) {n:Nat} (hct:∀R G U,JD F.A F.P w R G U (Dc f) vs us ->
  Calls F.P n us.toArray w fun e w'=>∃v Z D,e=.returned v/\ZX w w' R G U (Dc f) us sh cs outs v Z D) :
 Calls F.P n us.toArray w fun e w'=>∃v F' g',e=.returned v/\F.Le F'/\Inv F' S2 g' (a.put (some d) v) w'/\∀b,b<w.heap.size->¬Zs S g (Dc f) es b->w'.heap[b]?=w.heap[b]?:=by
 unfold pre at hpre;split at hpre
 .cases hpre
 .rename_i hcl;have hcl':LM [] (Dc f) es=false:=by simpa using hcl
  obtain⟨R,G,U,g1,hT,hA,hLs,hB,hGC,hel⟩:=AHy h hrd hlen hcl' hpre;have hclash:=SC hcl' hel;refine(hct R G U hA).mono ?_;rintro e w' ⟨v,Z,D,rfl,hK⟩;have h1:=hT.inv;have hes:∀{i:Nat} {md:Md},(Dc f)[i]?=some md->∃e,es[i]?=some e:=by
   intro i md hm;have:i<(Dc f).length:=(AJ.1 hm).1;exact⟨es[i]'(by omega),by simp[hel,this]⟩
  have hG:∀{i c b},G i c b->∃md e,(Dc f)[i]?=some md/\es[i]?=some e/\((md.Dy=true/\DA F S1 g1 b)\/(md=.b/\∃id,e=⟨.one,[.bp id 0]⟩/\(get S.bx id).isSome/\b=g.β id)):=by
   intro i c b hg;have hi:=hA.out i c b hg;have hm:(Dc f)[i]?=some (Dc f)[i]:=by simp[hi]
   obtain⟨e,he⟩:=hes hm;refine⟨_,e,hm,he,?_⟩;by_cases ht:((Dc f)[i]).Dy=true
   .exact .inl ⟨ht,hLs i c b _ hm ht hg⟩
   .have hb:=(hB i _ e hm he).1;obtain⟨j,md,e',k1,k2,k3,k4⟩:=hGC i c b hg;have hmd:(Dc f)[i]=.b:=by
     have harg:=hA.arg i _ (vs[i]'(by rw[hA.K6];exact hi)) (us[i]'(by rw[hA.YN];exact hi)) hm (by simp[hA.K6,hi]) (by simp[hA.YN,hi]);generalize (Dc f)[i]=md at *;cases md with
     |v=>
      unfold Td at harg;split at harg<;>first|exact absurd hg (harg.2.2 c b)|exact absurd hg (harg.2 c b)|(rename_i h1 _;cases h1)|exact harg.elim
     |p=>
      unfold Td at harg;split at harg<;>first|exact absurd hg (harg.2 c b)|(rename_i h1 _;cases h1)|exact harg.elim
     |b=>rfl|o=>simp[Md.Dy]at ht|m=>simp[Md.Dy]at ht
    rw[hmd]at hb;obtain⟨id,ls,q1,q2,q3,q4,q5,q6,q7⟩:=hb;exact .inr ⟨hmd,id,q1,by simp[q2],((q5 c b).1 hg).2⟩
  have hbxs:∀id,(get S1.bx id).isSome->(get S.bx id).isSome:=hT.bx;have hGK:∀{i c b},G i c b->¬F.K b:=by
   intro i c b hg hk;obtain⟨md,e,_,_,⟨_,hl⟩|⟨_,id,_,hs,rfl⟩⟩:=hG hg
   .exact hl.1 hk
   .exact h.bxR id hs hk
  have hGal:∀{i c b r},G i c b->Bl S1 r->¬g1.fp r b:=by
   intro i c b r hg hr hf;obtain⟨md,e,_,_,⟨_,hl⟩|⟨_,id,_,hs,rfl⟩⟩:=hG hg
   .exact hl.2.1 r hr hf
   .exact h.EO r id (hT.al r hr) hs (hT.fp r _ hf)
  let B:Nat->Prop:=fun id=>∃i:Nat,(Dc f)[i]?=some .b/\es[i]?=some ⟨.one,[.bp id 0]⟩
  have hnew:∀id,B id->∃us':List Value,(∃E,w'.heap[g1.β id]?=some (.cells us'.toArray E (0,0)))/\us'.length=(g1.bv id).length:=by
   rintro id ⟨i,hm,he⟩;obtain⟨id',ls,q1,q2,q3,q4,q5,q6,q7⟩:=(hB i _ _ hm he).1;cases q1;obtain⟨blk,us',E,k1,k2,k3⟩:=oI (Dc f) 0 outs hK.outs i hm;rw[Ai,q6]at k1;rw[Ai]at k3;cases k1;exact⟨us',⟨E,by rw[hT.β];exact k2⟩,by rw[k3,q4,hT.bv]⟩
  obtain⟨nb,hnb⟩:∃nb:Nat->List Value,(∀id,B id->(∃E,w'.heap[g1.β id]?=some (.cells (nb id).toArray E (0,0)))/\(nb id).length=(g1.bv id).length)/\∀id,¬B id->nb id=g1.bv id:=by
   classical
   refine⟨fun id=>if hb:B id then (hnew id hb).choose else g1.bv id,fun id hb=>?_,fun id hb=>by simp[hb]⟩;simp only[hb,dif_pos];exact(hnew id hb).choose_spec
  have h2:Inv F S1 { g1 with bv:=nb} a w':=by
   refine h1.called (B:=B) hK.still ?_ ?_ hnb.2
   .intro b hb hc;refine hK.frame b hb ?_;intro i c hg;rcases hc with hc|⟨r,hr,hc⟩|⟨id,hid,hnB,rfl⟩
    .exact hGK hg hc
    .exact hGal hg hr hc
    .obtain⟨md,e,hm,he,⟨_,hl⟩|⟨rfl,id',rfl,hs,heq⟩⟩:=hG hg
     .exact hl.2.2 id hid rfl
     .rw[hT.β]at heq;have:=h.E8 id id' (hbxs id hid) hs heq;subst this;exact hnB ⟨i,hm,he⟩
   .rintro id ls ⟨i,hm,he⟩ hls;obtain⟨id',ls',q1,q2,q3,q4,q5,q6,q7⟩:=(hB i _ _ hm he).1;cases q1;obtain⟨⟨E,hE⟩,hl⟩:=hnb.1 id ⟨i,hm,he⟩;exact⟨q7 ls hls,E,hE,hl⟩
  have hSp:∀b,Zw w (Dc f) G b->DA F S1 g1 b:=by
   rintro b (hf|⟨j,d',md,hm,ht,hg⟩)
   .exact DA.fresh h1 hf
   .exact hLs j d' b md hm ht hg
  have hZf:∀b,Z b->DA F S1 { g1 with bv:=nb} b:=by
   intro b hz;have:=hSp b (hK.z b hz).1;exact⟨this.1,this.2.1,this.2.2⟩
  have h3:Inv (F.ext Z w') S1 { g1 with bv:=nb} a w':=h2.ext fun b hz=>⟨(hK.z b hz).2,(hZf b hz).2.1,(hZf b hz).2.2⟩
  have hrv:∀r,(∀c id,r=.cell id c->¬B id)->({ g1 with bv:=nb}:Gh).rv r=g.rv r:=by
   intro r hr;rw[<-hT.rv r];cases r with
   |tmp s c=>rfl|cell id c=>simp[Gh.rv,hnb.2 id (hr c id rfl)]
  have hDL:∀p c b,D p c b->DA (F.ext Z w') S1 { g1 with bv:=nb} b:=by
   intro p c b hd';have hz:=hK.dz p c b hd';have hL:DA F S1 g1 b:=hSp b (hK.df p c b hd');exact⟨fun hk=>hk.elim hL.1 hz,hL.2.1,hL.2.2⟩
  unfold post at hpost;split at hpost
  .rename_i S3 hback;obtain⟨g3,h4,hC⟩:=wT (F:=F.ext Z w') (S0:=S) hK.dd (Dc f) es outs 0 S1 S3 _ h3 hback hK.outs (by
    intro k md e hm he;rw[Ai];obtain⟨hb1,hb2⟩:=hB k md e hm he;cases md with
    |b=>
     obtain⟨id,ls,q1,q2,q3,q4,q5,q6,q7⟩:=hb1;exact⟨id,ls,q1,q2,fun b hb=>hb.imp (fun hb=>by rw[q3]at hb;exact hb) (fun h=>h),by rw[q6];simp[hT.β],q7⟩
    |m=>
     obtain⟨q1,q2,q3⟩:=hb1;intro c l hl;obtain⟨p1,z,p2,p3,p4,p5⟩:=q3 c l hl;refine⟨z,p2,?_⟩;have hnoB:∀r,l.BX=some r->∀c id,r=.cell id c->¬B id:=by
      rintro r hr c' id rfl ⟨i,hm',he'⟩;have hne:k≠i:=by rintro rfl;rw[hm]at hm';cases hm'
      have hsh:=(hclash k .m e hm he rfl).2 i _ he' hne;have:=(FQ hsh (AX hl) (l':=.bp id 0) (by simp)).2.2 id (by simp[names]);exact KN this hr
     unfold Mm at p1;split at p1
     .trivial
     .rename_i r;obtain⟨x,u,k1,k2,k3⟩:=p3;have k3':z=u:=k3;exact⟨p4 r none rfl,by rw[hrv r (hnoB r rfl),k2,k3']⟩
     .rename_i r q e' xs';obtain⟨i',j'⟩:=q;obtain⟨hal,_,e0,rows,blk,off,len,cap,k1,k2,k3,k4,k5⟩:=p3;have hal1:=p5 r (i',j') e' xs' rfl;obtain⟨x1,hx1⟩:=hal1;obtain⟨x0,hx0,hlk⟩:=hT.nz r x1 hx1;rw[k1]at hx0;cases hx0;obtain⟨u1,hu1,hO1⟩:=h1.CL r _ hx1;rw[hT.rv r,k2]at hu1;cases hu1;have hfp:g1.fp r blk:=by
       have hO:Own w x1 (.slice (some ⟨blk,off,none⟩) len cap) (g1.fp r):=hO1;rcases hlk with rfl|⟨e2,l1,l2,hh1,rfl,_⟩
       .cases hO with|sc hh _ _=>exact hh.elim|sl c f p1 p2 p3 p4 p5 p6 p7 p8 p9 p10=>exact(p10 _).2 (.inl rfl)
       .cases hO with|sc hh _ _=>exact hh.elim|sl c f p1 p2 p3 p4 p5 p6 p7 p8 p9 p10=>exact(p10 _).2 (.inl rfl)
      have hblt:blk<w.heap.size:=Own.lt hO1 blk hfp;have hsame:=hK.frame blk hblt fun i c hg=>hGal hg ⟨x1,hx1⟩ hfp
      have hrows:∀row∈rows,row.length=e0:=by
       obtain⟨u0,hu0,hO0⟩:=h.CL r _ k1;have hO:Own w (.sl e0 rows) u0 (g.fp r):=hO0;cases hO with
       |sc hh _ _=>exact hh.elim|nl=>simp|sl c f p1 p2 p3=>exact p3
      refine⟨e0,rows.length,blk,off,len,cap,by rw[hrv r (hnoB r rfl)];exact k2,(IS hsame).trans k5,cz k3,Ka k3 hrows,?_⟩;intro e1 rows1 hr1;obtain⟨x2,hx2,hlk2⟩:=hT.nz r _ hr1;rw[k1]at hx2;cases hx2;rcases hlk2 with hh|⟨e3,l1,l2,hh1,hh2,hh3⟩
      .cases hh;exact⟨rfl,rfl⟩
      .cases hh1;cases hh2;exact⟨rfl,hh3⟩
     .cases p1
    |_=>trivial) (by
    intro k e hm he;exact(hB k .m e hm he).1.2.1) (fun k k' md e e' hm he hw he' hne=>(hclash k md e hm he hw).2 k' e' he' hne) (fun p c b _ hd'=>hDL p c b hd')
   have hLD0:∀c b,D 0 c b->DA (F.ext Z w') S3 g3 b:=by
    intro c b hd';refine(hDL 0 c b hd').c9 hC ?_;rintro⟨p,c',hp,hd''⟩;exact hK.dd 0 c p c' b hd' (.inl (by omega)) hd''
   have hLe:F.Le (F.ext Z w'):=⟨Z,w',rfl,fun b hb=>((hK.frame b (Az (h.rlt b hb) h.size) fun i c hg=>hGK hg hb).trans (h.EM b hb)),h.still.trans hK.still,fun b hz=>(hZf b hz).1⟩;have hfr:∀b,b<w.heap.size->¬Zs S g (Dc f) es b->w'.heap[b]?=w.heap[b]?:=fun b hb hn=>hK.frame b hb fun i c hg=>hn (hGC i c b hg)
   have hlab:∀{k lab b},YJ f S es k=some lab->R k b\/Z b->(F.ext Z w').R lab b:=by
    intro k lab b hl hb;unfold YJ at hl;split at hl
    .rename_i e he;split at hl
     .cases hl
     .rename_i hnp;refine hb.imp (fun hb=>?_) id;have hk:k<(Dc f).length:=by rw[<-hel];exact(AJ.1 he).1
      refine(hB k (Dc f)[k] e (by simp[hk]) he).2 ?_ lab hl b hb;intro hp;exact hnp (by simp[hk,hp])
    .cases hl
   have owned:S3.DJ d (ALs sh cs)=some S2->(∃us,v=mkV sh us/\ik w' (D 0) cs us)->∃v' F' g',Ending.returned v=.returned v'/\F.Le F'/\Inv F' S2 g' (a.put (some d) v') w'/\∀b,b<w.heap.size->¬Zs S g (Dc f) es b->w'.heap[b]?=w.heap[b]?:=by
    rintro hp ⟨us',rfl,ho1,ho2⟩;have hcl':Cells (F.ext Z w') S3 g3 w' (cs.map HK) us' (D 0):=by
     refine⟨by simpa using ho1,?_,?_⟩
     .intro c l hl;rw[Ak,AG]at hl;obtain⟨x,hx,rfl⟩:=hl;obtain⟨z,hz,hO⟩:=ho2 c x hx;exact⟨z,hz,YM hO⟩
     .intro c x hx;refine⟨fun b hb=>(hLD0 c b hb).1,fun r hr b hb=>(hLD0 c b hb).2.1 r hr,fun id hid hb=>(hLD0 c _ hb).2.2 id hid rfl,fun c' x' _ hne b hb=>hK.dd 0 c 0 c' b hb (.inr hne)⟩
    obtain⟨g',hg⟩:=h4.DJ hp hd hcl';exact⟨_,_,g',rfl,hLe,hg,hfr⟩
   have hres:=hK.res;cases sh with
   |one=>exact owned hpost hres|agg=>exact owned hpost hres|tup ns=>exact owned hpost hres|ptr k=>
    simp only at hpost;split at hpost
    .rename_i lab hl;obtain⟨blk,us',E,rfl,q2,q3,q4,q5,q6⟩:=hres;have hLb:DA (F.ext Z w') S3 g3 blk:=by
      have h0:DA (F.ext Z w') S1 { g1 with bv:=nb} blk:=by
       have:=hSp blk q4;exact⟨fun hk=>hk.elim this.1 q5,this.2.1,this.2.2⟩
      refine h0.c9 hC ?_;rintro⟨p,c',hp,hd''⟩;exact q6 p c' hd''
     obtain⟨g',hg⟩:=h4.ALa hd hpost q2 ⟨q3.1,fun c x hx=>let ⟨z,hz,hV⟩:=q3.2 c x hx;⟨z,hz,hV.up fun b hb=>hlab hl hb⟩⟩ hLb;exact⟨_,_,g',rfl,hLe,hg,hfr⟩
    .cases hpost
   |vw k=>
    simp only at hpost;split at hpost
    .rename_i lab hl;obtain⟨x,rfl,hV⟩:=hres;obtain⟨g',hg⟩:=Ly h4 hd (by simpa using hpost) (fun y=>Nz) (Li (hV.up fun b hb=>hlab hl hb));exact⟨_,_,g',rfl,hLe,hg,hfr⟩
    .cases hpost
  .cases hpost
end
def Oper.NB(P:Program)(o:Oper)(a:Act)(w:World)(K:Act->World->Prop):Prop:=
 match (execOp a.eval o).run P w with
 |.ok (.value v) w'=>K (a.put o.dst v) w'|.ok .skip w'=>K (a.put o.dst undef) w'|.ok (.enter f args) w'=>Calls P f args w' fun e w''=>∃v,e=.returned v/\K (a.put o.dst v) w''|_=>False
theorem Oper.NB.wp{P:Program}{o:Oper}{a:Act}{w:World}{K:Act->World->Prop}{Q:Exit->Act->World->Prop}(h:Oper.NB P o a w K):o.wp P a w K Q:=by
 unfold Oper.NB at h;unfold Oper.wp;split at h
 .rename_i hr;rw[hr];exact h
 .rename_i hr;rw[hr];exact h
 .rename_i f args w' hr;rw[hr];exact h.mono fun e w'' ⟨v,he,hk⟩=>by subst he;exact hk
 .exact h.elim
theorem Oper.NB.mono{P:Program}{o:Oper}{a:Act}{w:World}{K K':Act->World->Prop}(h:Oper.NB P o a w K)(hk:∀a w,K a w->K' a w):Oper.NB P o a w K':=by
 unfold Oper.NB at h ⊢;split at h
 .exact hk _ _ h
 .exact hk _ _ h
 .exact h.mono fun e w'' ⟨v,he,h⟩=>⟨v,he,hk _ _ h⟩
 .exact h.elim
structure LD(A:Nat->Nat->List Md->Prop)(P:Program):Prop where
 there:∀n id ms,A n id ms->∃fn,P.funcs[n]?=some fn/\fn.body.isNone=false/\(fn.name == "runtime.NumGoroutine")=false
 ct:∀n id ms vs sh cs outs,A n id ms->Tf id vs sh cs outs->∀w R G U us,JD A P w R G U ms vs us ->
  Calls P n us.toArray w fun e w'=>∃v Z D,e=.returned v/\ZX w w' R G U ms us sh cs outs v Z D
theorem Mt.there{A:Nat->Nat->List Md->Prop}{P:Program}(hA:LD A P){n:Nat}{f:Ba}(h:Mt A P n f):∃fn,P.funcs[n]?=some fn/\fn.body.isNone=false/\(fn.name == "runtime.NumGoroutine")=false:=by
 cases h with
 |K9 h=>exact hA.there _ _ _ h|mk h1 h2 h3 h4=>
  refine⟨_,h1,by simp[h2],?_⟩;cases f with
  |mk ms rs body=>
   grind[Sd]
  |K9=>simp[Sd]at h3
section
variable{F:Fix}{S S' S1 S2:St}{g g' g1:Gh}{a a':Act}{w w':World}
theorem vQ{l:AN}{v:Value}(h:D4 F g w l v):BR F S g w (fun _=>False) l v/\∀x,l≠.ow x:=by
 match l,h with
 |.t _,h=>exact⟨h,by simp⟩|.und,h=>exact⟨h,by simp⟩|.vw (.old _) _ _,h=>exact⟨h,by simp⟩|.vp (.old _) _,h=>exact⟨h,by simp⟩|.bp _ _,h=>exact⟨h,by simp⟩
theorem cH{P:Program}{n:Nat}{fn:Func}{args:Array Value}(h1:P.funcs[n]?=some fn)(h2:fn.body.isNone=false) (h3:(fn.name == "runtime.NumGoroutine")=false):(callFunc n args).run P w=.ok (.enter n args) w:=by
 have hp:(program).run P w=.ok P w:=rfl
 grind[callFunc,Sem.run_bind,Result.andThen,Bool.false_eq_true,Sem.run_pure]
theorem AAg(hA:LD F.A F.P)(h:Inv F S g a w){o:Oper}{x:XOp}{d:Nat}{f:Ba}{es:List Ent}(hok:Pm F.P F.N o.dst o.op x=true)(hm:∀p∈DI o.op x,Mt F.A F.P p.1 p.2)(hc:ER x S=some (d,f,es)) :
 ∃(n:Nat) (us:List Value),(execOp a.eval o).run F.P w=.ok (.enter n us.toArray) w/\Mt F.A F.P n f/\us.length=es.length/\(∀(i:Nat) e,es[i]?=some e->∃u,us[i]?=some u/\Rd F S g w e u)/\o.dst=some d/\d<F.N:=by
 obtain⟨dst,op,ty,pos,after,guard⟩:=o;dsimp only at hok hm ⊢;simp only[Pm,AD]at hok;obtain⟨hdst,hok⟩:=hok;cases x with
 |call d' f' args'=>
  simp only[ER]at hc;split at hc
  .rename_i es' hes;simp only[AB,Ag]at hc;obtain⟨rfl,rfl,rfl⟩:=hc;obtain⟨rfl,hd⟩:=Co hdst rfl;split at hok
   all_goals try (rename_i heq;cases heq;done)
   all_goals try (cases hok;done)
   rename_i fn args ats d2 g2 args2 heq;cases heq;have hmt:Mt F.A F.P fn f':=hm (fn,f') (by unfold DI;simp);obtain⟨fnd,k1,k2,k3⟩:=Mt.there hA hmt;obtain⟨r1,r2⟩:=vV h hes hok (fun p hp=>hm p (by unfold DI;simp[hp]));refine⟨fn,args.toList.map a.eval,?_,hmt,by simp[r1],?_,rfl,hd⟩
   .have hr:=cH (w:=w) (args:=args.map a.eval) k1 k2 k3;have he:(args.toList.map a.eval).toArray=args.map a.eval:=Bd.1 (by simp);rw[he];have hev:a.eval (.func fn)=.func (.func fn) #[] #[]:=rfl;simp only[execOp,resolve,hev,Deferred.ofValue,Sem.run_bind,Sem.run_pure,Result.andThen,invoke,G3,Array.append_empty,hr]
   .intro i e he;obtain⟨o',ho',hr⟩:=r2 i e he;exact⟨a.eval o',by simp[ho'],hr⟩
  .cases hc
 |Dm d' x' ms args'=>
  simp only[ER]at hc;split at hc
  .rename_i f' caps es' hone hes;split at hc
   .rename_i hms;simp only[AB,Ag]at hc;obtain⟨rfl,rfl,rfl⟩:=hc;obtain⟨rfl,hd⟩:=Co hdst rfl;have key:∀(fo:Operand) (args:Array Operand) (ats:Array TypeId),op=.call { callee:=.value fo,args:=args,argTypes:=ats}->Bh fo x'=true->K7 args.toList args'=true->(∀p∈Bk fo x'++Dw args.toList args',Mt F.A F.P p.1 p.2) ->
     ∃(n:Nat) (us:List Value),(execOp a.eval { dst:=some d',op:=op,type:=ty,pos:=pos,after:=after,guard:=guard}).run F.P w=.ok (.enter n us.toArray) w/\Mt F.A F.P n f'/\us.length=(es'++caps.map fun l=>(⟨.one,[l]⟩:Ent)).length /\
      (∀(i:Nat) e,(es'++caps.map fun l=>(⟨.one,[l]⟩:Ent))[i]?=some e->∃u,us[i]?=some u/\Rd F S g w e u)/\some d'=some d'/\d'<F.N:=by
     rintro fo args ats rfl h1 h2 h3;obtain⟨⟨n,cv,q1,q2,q3,q4⟩,_⟩:=Ft h hone h1 (fun p hp=>h3 p (by simp[hp]));obtain⟨fnd,k1,k2,k3⟩:=Mt.there hA q2;obtain⟨r1,r2⟩:=vV h hes h2 (fun p hp=>h3 p (by simp[hp]));refine⟨n,args.toList.map a.eval++cv.toList,?_,q2,by simp[r1,q3],?_,rfl,hd⟩
     .have hr:=cH (w:=w) (args:=args.map a.eval++cv) k1 k2 k3;have he:(args.toList.map a.eval++cv.toList).toArray=args.map a.eval++cv:=Bd.1 (by simp);rw[he];simp only[execOp,resolve,q1,Deferred.ofValue,Sem.run_bind,Sem.run_pure,Result.andThen,invoke,G3,hr]
     .intro i e he;by_cases hi:i<es'.length
      .rw[Ar hi]at he;obtain⟨o',ho',hr⟩:=r2 i e he;exact⟨a.eval o',by rw[Ar (by simpa[<-r1] using hi)];simp[ho'],hr⟩
      .rw[An (by omega),Ak,AG]at he;obtain⟨l,hl,rfl⟩:=he;have hlt:i-es'.length<caps.length:=(AJ.1 hl).1;have hc:cv[i-es'.length]?=some cv[i-es'.length]:=by simp[q3,hlt]
       obtain⟨p1,p2⟩:=vQ (q4 _ l _ hl hc);refine⟨cv[i-es'.length],?_,[cv[i-es'.length]],rfl,rfl,?_,?_⟩
       .rw[An (by simp[<-r1];omega)];simp only[AZ,Array.length_toList,Array.getElem?_toList];have:args.size=es'.length:=by rw[r1];simp
        rw[this];exact hc
       .intro x hx;simp only[DO]at hx;exact p2 x hx.symm
       .intro c l' hl';cases c with|zero=>simp only[AI,AB]at hl';subst hl';exact⟨_,rfl,p1⟩|succ c=>simp at hl'
    split at hok
    all_goals try (rename_i heq;cases heq;done)
    all_goals try (cases hok;done)
    rename_i fo args ats d2 f2 ms2 args2 heq;cases heq;simp only[AD]at hok;refine key fo args ats rfl hok.1 hok.2 (fun p hp=>hm p ?_);cases fo<;>exact hp
   .cases hc
  .cases hc
 |_=>simp[ER]at hc
def ADH(S:St)(g:Gh)(x:XOp)(b:Nat):Prop:=
 match ER x S with
 |some (_,f,es)=>Zs S g (Dc f) es b|none=>Tch S g x b
def AJU(F:Fix)(S:St)(g:Gh)(w:World)(x:XOp)(K:St->Prop)(a':Act)(w':World):Prop:=
 ∃F' S' g',F.Le F'/\Inv F' S' g' a' w'/\K S'/\∀b,b<w.heap.size->¬ADH S g x b->w'.heap[b]?=w.heap[b]?
theorem AFh{Rn:Rel}(hA:LD F.A F.P)(hRn:∀f vs sh cs outs,Rn f vs sh cs outs->Ct F.A F.P f vs sh cs outs)(h:Inv F S g a w){o:Oper}{x:XOp}{K:St->Prop}(hok:Pm F.P F.N o.dst o.op x=true)(hm:∀p∈DI o.op x,Mt F.A F.P p.1 p.2)
 (hk:opK Rn x S K):Oper.NB F.P o a w (AJU F S g w x K):=by
 rcases hk with ⟨S',hev,hK⟩|⟨d,f,es,S1,vs,sh,cs,outs,S2,hc,hpre,hrun,hpost,hK⟩
 .obtain⟨n,v,w',g',h1,h2,h3,h4⟩:=(AJf h hok hm hev).eff;have hnc:ER x S=none:=by
   cases x<;>first|rfl|(simp[ev]at hev)
  have hw:AJU F S g w x K (a.put o.dst v) w':=⟨F,S',g',.refl,h3,hK,by simpa only[ADH,hnc] using h4⟩;unfold Oper.NB
  grind
 .obtain⟨n,us,h1,hmt,hlen,hrd,hdst,hd⟩:=AAg hA h hok hm hc;have:=AH8 h hd hrd hlen hpre hpost (fun R G U hargs=>hRn _ _ _ _ _ hrun n hmt w R G U us hargs);unfold Oper.NB;rw[h1];refine this.mono ?_;rintro e w' ⟨v,F',g',rfl,hLe,hinv,hfr⟩;refine⟨v,rfl,F',S2,g',hLe,by rw[hdst];exact hinv,hK,?_⟩;simpa only[ADH,hc] using hfr
theorem Yh{Rn:Rel}{F0:Fix}(hA:LD F0.A F0.P)(hRn:∀f vs sh cs outs,Rn f vs sh cs outs->Ct F0.A F0.P f vs sh cs outs){ops:Array Oper}{K:St->Prop}:∀(xs:List (Option (Nat×Bool)×XOp)) (os:List Oper) (F:Fix) (S:St) (g:Gh) (a:Act) (w:World),
 F0.Le F->Inv F S g a w->Lr F0.P F0.N ops os xs=true->(∀p∈K8 os xs,Mt F0.A F0.P p.1 p.2)->vO Rn xs S K ->
 wpList F0.P ops (fun ex a' w'=>ex=.normal/\∃F' S' g',F0.Le F'/\Inv F' S' g' a' w'/\K S') os a w
 | [],os,F,S,g,a,w,hL0,h,hok,hm,hk=>by
  cases os with
  |nil=>exact⟨rfl,F,S,g,hL0,h,hk⟩|cons=>simp[Lr]at hok
 |(gd,x)::xs,os,F,S,g,a,w,hL0,h,hok,hm,hk=>by
  obtain⟨hP,hFA,hN,_,_⟩:=hL0.P;rw[<-hP,<-hFA]at hA hRn;rw[<-hP,<-hN]at hok;rw[<-hP,<-hFA]at hm;rw[<-hP];by_cases hdrop:∃ds,x=.drop ds
  .obtain⟨ds,rfl⟩:=hdrop;have hok':gd.isNone=true/\Lr F.P F.N ops os xs=true:=by
    cases os<;>simpa[Lr] using hok
   have hgd:gd=none:=by simpa using hok'.1
   subst hgd;obtain⟨b,hb,hk⟩:=hk;simp only[wanted,AB]at hb;subst hb;rcases hk with ⟨_,hk⟩|⟨hb,_⟩
   .rcases hk with ⟨S',hev,hk⟩|⟨d,f,es,S1,vs,sh,cs,outs,S2,hc,_⟩
    .simp only[ev,AB]at hev;subst hev;have:=Yh (F0:=F0) (by rw[<-hP,<-hFA];exact hA) (by rw[<-hP,<-hFA];exact hRn) xs os F _ g a w hL0 (zt h ds) (by rw[<-hP,<-hN];exact hok'.2) (by rw[<-hP,<-hFA];exact fun p hp=>hm p (by cases os<;>simpa[K8] using hp)) hk;rw[<-hP]at this;exact this
    .simp[ER]at hc
   .cases hb
  by_cases hnil:∃ns,x=.RT ns
  .obtain⟨ns,rfl⟩:=hnil;have hok':gd.isNone=true/\Lr F.P F.N ops os xs=true:=by
    cases os<;>simpa[Lr] using hok
   have hgd:gd=none:=by simpa using hok'.1
   subst hgd;obtain⟨b,hb,hk⟩:=hk;simp only[wanted,AB]at hb;subst hb;rcases hk with ⟨_,hk⟩|⟨hb,_⟩
   .rcases hk with ⟨S',hev,hk⟩|⟨d,f,es,S1,vs,sh,cs,outs,S2,hc,_⟩
    .simp only[ev,AB]at hev;subst hev;obtain⟨g',hg'⟩:=zw h ns;have:=Yh (F0:=F0) (by rw[<-hP,<-hFA];exact hA) (by rw[<-hP,<-hFA];exact hRn) xs os F _ g' a w hL0 hg' (by rw[<-hP,<-hN];exact hok'.2) (by rw[<-hP,<-hFA];exact fun p hp=>hm p (by cases os<;>simpa[K8] using hp)) hk;rw[<-hP]at this;exact this
    .simp[ER]at hc
   .cases hb
  .cases os with
   |nil=>cases x<;>first|(simp[Lr]at hok;done)|exact absurd ⟨_,rfl⟩ hdrop|exact absurd ⟨_,rfl⟩ hnil
   |cons o os=>
    have hok':(Kk ops o.guard gd=true/\Pm F.P F.N o.dst o.op x=true)/\Lr F.P F.N ops os xs=true:=by
     cases x<;>first|exact absurd ⟨_,rfl⟩ hdrop|exact absurd ⟨_,rfl⟩ hnil|simpa[Lr,AD] using hok
    have hm':(∀p∈DI o.op x,Mt F.A F.P p.1 p.2)/\∀p∈K8 os xs,Mt F.A F.P p.1 p.2:=by
     have:K8 (o::os) ((gd,x)::xs)=DI o.op x++K8 os xs:=by
      cases x<;>first|exact absurd ⟨_,rfl⟩ hdrop|exact absurd ⟨_,rfl⟩ hnil|rfl
     rw[this]at hm;exact⟨fun p hp=>hm p (by simp[hp]),fun p hp=>hm p (by simp[hp])⟩
    obtain⟨⟨hg,ho⟩,hos⟩:=hok';obtain⟨b,hb,hk⟩:=hk;have hw:=Ta h hg hb;simp only[wpList,hw];rcases hk with ⟨rfl,hk⟩|⟨rfl,S',hs,hk⟩
    .simp only[if_true];left;refine Oper.NB.wp ((AFh hA hRn h ho hm'.1 hk).mono ?_);rintro a' w' ⟨F',S',g',hLe,hinv,hk',_⟩;have:=Yh (F0:=F0) (by rw[<-hP,<-hFA];exact hA) (by rw[<-hP,<-hFA];exact hRn) xs os F' S' g' a' w' (hL0.trans hLe) hinv (by rw[<-hP,<-hN];exact hos) (by rw[<-hP,<-hFA];exact hm'.2) hk';rw[<-hP]at this;exact this
    .simp only[A7,if_false];obtain⟨g',hinv⟩:=hH h ho hs;have:=Yh (F0:=F0) (by rw[<-hP,<-hFA];exact hA) (by rw[<-hP,<-hFA];exact hRn) xs os F S' g' _ w hL0 hinv (by rw[<-hP,<-hN];exact hos) (by rw[<-hP,<-hFA];exact hm'.2) hk;rw[<-hP]at this;exact this
end
section
variable{F:Fix}{S S' S1 S2:St}{g g' g1:Gh}{a a':Act}{w w':World}
theorem AEB(h:Inv F S g a w){fp:Blk}{l:AN}{v:Value}{b:Nat}(hf:S.KB l=true)(hl:BR F S g w fp l v)(hb:Hu v=some b) :
 F.K b\/(∃r,l.BX=some r/\Bl S r/\g.fp r b)\/∃id∈names l,(get S.bx id).isSome/\b=g.β id:=by
 have ofOwn:∀{x:T} {u:Value} {S0:Blk},Sv x=false->Own w x u S0->Hu u=some b->S0 b:=by
  intro x u S0 htop ho hb;cases ho with
  |sc hs _ _=>
   cases x with
   |top=>cases htop
   |un=>cases htop
   |sl=>exact hs.elim|mp=>exact hs.elim|_=>have hs':u=_:=hs;subst hs';simp[Hu]at hb
  |nl=>simp[Hu]at hb|mp=>simp[Hu]at hb|sl c f h1 h2 h3 h4 h5 h6 h7 h8 h9 h10=>
   simp only[Hu,AB]at hb;subst hb;exact(h10 _).2 (.inl rfl)
 match l,hl,hf with
 |.bp id off,hl,hf=>
  have hv:v=_:=hl;subst hv;simp only[Hu,AB]at hb;exact .inr (.inr ⟨id,by simp[names],hf,hb.symm⟩)
 |.ep r i j,⟨e,xs,blk,off,len,cap,h1,h2,h3,h4⟩,_=>
  subst h4;simp only[Hu,AB]at hb;subst hb;obtain⟨u,hu,ho⟩:=h.CL r _ h1;rw[h2]at hu;cases hu;exact .inr (.inl ⟨r,rfl,⟨_,h1⟩,ofOwn rfl ho rfl⟩)
 |.vp (.own r p) (c::cs),⟨hal,ad,c0,f,h1,h2,h3⟩,_=>
  subst h1;simp only[Hu,AB]at hb;subst hb;exact .inr (.inl ⟨r,rfl,hal,(h3 0 c rfl).1⟩)
 |.vp (.old k) (c::cs),⟨ad,c0,h1,h2,h3⟩,_=>
  subst h1;simp only[Hu,AB]at hb;subst hb;exact .inl (F.RK k _ (h3 0 c rfl).1)
 |.vp _ [],_,hf=>simp[St.KB]at hf|.al r sub,⟨x,u,h1,h2,h3⟩,hf=>
  have htop:Sv x=false:=by simpa[St.KB,h1] using hf
  obtain⟨u',hu',ho⟩:=h.CL r _ h1;rw[h2]at hu';cases hu';have hO:Own w x u (g.fp r):=ho;refine .inr (.inl ⟨r,rfl,⟨_,h1⟩,?_⟩);cases sub with
  |none=>
   have h3':v=u:=h3;subst h3';exact ofOwn htop hO hb
  |some p=>
   obtain⟨lo,n⟩:=p;cases x with
   |sl e xs=>
    obtain⟨blk,off,len,cap,off',cap',q1,q2,_⟩|⟨_,q2,_⟩:=h3
    .subst q1 q2;simp only[Hu,AB]at hb;subst hb;exact ofOwn rfl hO rfl
    .subst q2;simp[Hu]at hb
   |_=>
    obtain⟨h3',_⟩:=h3;subst h3';exact ofOwn htop hO hb
 |.vw (.own r p) e xs,⟨hal,⟨S0,hS0,hO⟩,_⟩,_=>exact .inr (.inl ⟨r,rfl,hal,hS0 b (ofOwn rfl hO hb)⟩)|.t .nil,hl,_=>
  have hv:v=_:=hl;subst hv;simp[Hu]at hb
 |.t (.int _ _),_,hf=>simp[St.KB]at hf|.t (.bool _),_,hf=>simp[St.KB]at hf|.t (.str _),_,hf=>simp[St.KB]at hf|.t .np,_,hf=>simp[St.KB]at hf|.t .top,_,hf=>simp[St.KB]at hf|.t .un,_,hf=>simp[St.KB]at hf|.t (.sl _ _),_,hf=>simp[St.KB]at hf|.vw (.old _) _ _,_,hf=>simp[St.KB]at hf|.und,_,hf=>simp[St.KB]at hf|.ow _,_,hf=>simp[St.KB]at hf|.fn _ _,_,hf=>simp[St.KB]at hf
theorem oC{l:AN}{id:Nat}(h:id∈names l):EN id l=true:=by
 cases l<;>simp[names]at h
 .simp[EN,AN.Iy,h]
 grind[EN,List.any_eq_true,AN.Iy]
theorem Uj{l:AN}:∀{ms:List Md} {es:List Ent},HT l ms es=true->∀(i:Nat) md e,ms[i]?=some md->es[i]?=some e->md.writes=true->∀l'∈e.cs,Mq l' l=false
 | [],_,_,i,md,e,h,_,_=>by simp at h|_::_,[],_,_,_,_,_,h,_=>by simp at h|md0::ms,e0::es,h,i,md,e,hm,he,hw=>by
  simp only[HT,AD,B6,Dg,A8]at h;cases i with
  |zero=>
   grind[List.getElem?_cons_zero,Option.some.injEq]
  |succ i=>exact Uj h.2 i md e (by simpa using hm) (by simpa using he) hw
theorem vW(h:Inv F S g a w){y:Opd}{l:AN}{r:Bj}(hy:S.one y=some l)(hr:l.BX=some r):Bl S r:=by
 cases y with
 |tmp s=>exact(Ft h hy (o:=.tmp s) (by simp[Bh]) (by simp[Bk])).1.alive hr|k x=>
  simp only[St.one,St.rd]at hy;cases hy;cases x<;>cases hr
 |fn f=>
  simp only[St.one,St.rd]at hy;cases hy;cases hr
theorem AJI(h:Inv F S g a w){x:XOp}{s:Nat}{l:AN}{b:Nat}(hs:S.one (.tmp s)=some l)(hsafe:O3 x S l=true)(hb:Hu (a.tmps.getD s undef)=some b):b<w.heap.size/\¬ADH S g x b:=by
 have hl:=(Ft h hs (o:=.tmp s) (by simp[Bh]) (by simp[Bk])).1;have hev:a.eval (.tmp s)=a.tmps.getD s undef:=by simp[Act.eval]
 rw[hev]at hl;simp only[O3,AD]at hsafe;obtain⟨hfirm,hsafe⟩:=hsafe;have hcases:=AEB h hfirm hl hb;have flt:∀r,Bl S r->g.fp r b->b<w.heap.size:=by
  rintro r ⟨y,hy⟩ hf;obtain⟨u,_,ho⟩:=h.CL r _ hy;exact Own.lt ho b hf
 refine⟨?_,?_⟩
 .rcases hcases with hk|⟨r,_,hal,hf⟩|⟨id,_,hid,rfl⟩
  .exact Az (h.rlt b hk) h.size
  .exact flt r hal hf
  .obtain⟨ls,hls⟩:=BG.1 hid;obtain⟨⟨E,hE⟩,_⟩:=h.bxs id ls hls;exact(Aj.1 hE).1
 .intro hT;unfold ADH at hT;have main:∀f es,(match x with|.st _ _ _=>False|_=>True)->ER x S=some (0,f,es)\/True->HT l (Dc f) es=true->Zs S g (Dc f) es b->False:=by
   rintro f es _ _ hap ⟨i,md,e,hm,he,hw,hT⟩;have hsh:=Uj hap i md e hm he hw;have off:∀l'∈e.cs,(∀r,l'.BX=some r->l.BX≠some r)/\∀id∈names l',EN id l=false:=by
    intro l' hl';have h1:=hsh l' hl';simp only[Mq,Dp,List.any_eq_false,Bool.not_eq_true]at h1;refine⟨fun r hr=>?_,h1.2⟩;have:=h1.1;rw[hr]at this;simpa using this
   rcases hT with ⟨id,rfl,hid,rfl⟩|⟨l',r',hl',hr',hal',hf'⟩
   .rcases hcases with hk|⟨r,_,hal,hf⟩|⟨id1,hid1,hs1,he1⟩
    .exact h.bxR id hid hk
    .exact h.EO r id hal hid hf
    .have:id1=id:=h.E8 id1 id hs1 hid he1.symm;subst this;have:=(off (.bp id1 0) (by simp)).2 id1 (by simp[names]);rw[oC hid1]at this;cases this
   .rcases hcases with hk|⟨r,hr,hal,hf⟩|⟨id1,hid1,hs1,rfl⟩
    .exact h.Fa r' hal' b hf' hk
    .by_cases hrr:r'=r
     .subst hrr;exact(off l' hl').1 r' hr' hr
     .exact h.dis r' r hal' hal hrr b hf' hf
    .exact h.EO r' id1 hal' hs1 hf'
  split at hT
  .rename_i d f es hc;have hap:HT l (Dc f) es=true:=by
    cases x<;>first|(simp[ER]at hc;done)|(simpa only[hc] using hsafe)
   exact main f es (by cases x<;>first|trivial|(simp[ER]at hc)) (.inr trivial) hap hT
  .rename_i hc;have key:∀y,x.wr=some y->(∃l r,S.one y=some l/\l.BX=some r/\g.fp r b)->(match S.one y with|some lt=>l.BX.isNone||decide (l.BX≠lt.BX)|none=>true)=true->False:=by
    rintro y hy ⟨lt,r,h1,h2,h3⟩ hh;rw[h1]at hh;simp only[B6,Option.isNone_iff_eq_none,decide_eq_true_eq]at hh;have hal:=vW h h1 h2;rcases hcases with hk|⟨r1,hr1,hal1,hf1⟩|⟨id1,hid1,hs1,rfl⟩
    .exact h.Fa r hal b h3 hk
    .rcases hh with hh|hh
     .rw[hh]at hr1;cases hr1
     .have hne:r1≠r:=by rintro rfl;exact hh (hr1.trans h2.symm)
      exact h.dis r1 r hal1 hal hne b hf1 h3
    .exact h.EO r id1 hal hs1 h3
   have stc:∀n p v,x=.st n p v->False:=by
    rintro n p v rfl;simp only[Tch]at hT;obtain⟨lp,hlp,hT⟩:=hT;dsimp only at hsafe;rw[hlp]at hsafe;rcases hT with ⟨id,off,rfl,hid,rfl⟩|⟨r,hr,hal,hf⟩
    .dsimp only at hsafe;rcases hcases with hk|⟨r1,hr1,hal1,hf1⟩|⟨id1,hid1,hs1,he1⟩
     .exact h.bxR id hid hk
     .exact h.EO r1 id hal1 hid hf1
     .have:id1=id:=h.E8 id1 id hs1 hid he1.symm;subst this;simp[hid1]at hsafe
    .cases lp with
     |ep r0 i j=>
      simp only[AN.BX,AB]at hr;subst hr;simp only[decide_eq_true_eq]at hsafe;rcases hcases with hk|⟨r1,hr1,hal1,hf1⟩|⟨id1,hid1,hs1,rfl⟩
      .exact h.Fa _ hal b hf hk
      .have hne:r1≠r0:=by rintro rfl;exact hsafe hr1
       exact h.dis r1 r0 hal1 hal hne b hf1 hf
      .exact h.EO _ id1 hal hs1 hf
     |_=>first|(simp[AN.BX]at hr;done)|(simp at hsafe;done)
   by_cases hst:∃n p v,x=.st n p v
   .obtain⟨n,p,v,hx⟩:=hst;exact stc n p v hx
   clear stc;cases x<;>first|exact hst ⟨_,_,_,rfl⟩|(simp only[Tch,XOp.wr]at hT<;>first|exact hT|(simp only[hc,XOp.wr]at hsafe;exact key _ rfl hT hsafe)|(simp at hsafe))
end
section
variable{P:Program}{ops:Array Oper}{Q:Exit->Act->World->Prop}
def LC(P:Program)(ops:Array Oper)(Q:Exit->Act->World->Prop)(L:List (Nat×Nat)):Nat->Array Bool->Act->World->Prop
 |0,listed,a,w=>Region.ready .any ops listed=[]/\Q .normal a w|fuel+1,listed,a,w=>
  (Region.ready .any ops listed=[]->Q .normal a w) /\
  ∀j∈Region.ready .any ops listed,wpOp P ops Q j (fun a' w'=>(∀t∈L,Mv ops ops.size j t.1=false->w'.heap[t.2]?=w.heap[t.2]?)/\LC P ops Q L fuel (listed.setIfInBounds j true) a' w') a w
theorem ZV{L:List (Nat×Nat)}:∀(fuel:Nat) (listed:Array Bool) (a:Act) (w:World),LC P ops Q L fuel listed a w->wpAny P .any ops Q fuel listed a w|0,_,_,_,h=>h|fuel+1,_,_,_,h=>⟨h.1,fun i hi=>wpOp_mono (fun a' w' h'=>ZV fuel _ a' w' h'.2) (h.2 i hi)⟩
def KX(ops:Array Oper)(listed:Array Bool):Prop:=∀(j:Nat) oj,ops[j]?=some oj->listed.getD j true=true->∀e∈oj.after,Region.binds .any e=true->listed.getD e.on false=true
theorem PU{listed:Array Bool}{j:Nat}(h:listed.getD j false=true):listed.getD j true=true:=by
 grind[Nat.lt_or_ge,Array.getElem?_eq_none]
theorem KX.set{listed:Array Bool}{i:Nat}(hc:KX ops listed)(hi:i∈Region.ready .any ops listed):KX ops (listed.setIfInBounds i true):=by
 obtain⟨hun,oi,hoi,hall⟩:=mem_ready.1 hi;intro j oj hj hl e he hb;by_cases hij:i=j
 .grind[getD_set_true]
 .rw[getD_set_ne true hij]at hl;exact getD_set_true (hc j oj hj hl e he hb)
theorem bM{b:Nat}:∀(l:List Edge) (m:Nat),(l.foldl (fun m e=>if Region.binds .any e=true then m |||2 ^ e.on else m) m).testBit b=true->m.testBit b=true\/∃e∈l,Region.binds .any e=true/\e.on=b
 | [],m,h=>.inl h|e::l,m,h=>by
  rw[List.foldl_cons]at h;rcases bM l _ h with h1|⟨e',h1,h2⟩
  .grind[List.mem_cons_self]
  grind[List.mem_cons_of_mem]
theorem bK{j b:Nat}(h:(nK ops j).testBit b=true):∃o,ops[j]?=some o/\∃e∈o.after,Region.binds .any e=true/\e.on=b:=by
 unfold nK at h;split at h
 .rename_i o ho;rcases bM _ _ h with h1|⟨e,h1,h2⟩
  .simp at h1
  grind
 .simp at h
theorem Ui{listed:Array Bool}(hc:KX ops listed):∀(n m:Nat),(∀b,m.testBit b=true->listed.getD b false=true)->∀b,(ADP ops n m).testBit b=true->listed.getD b false=true
 |0,m,h,b,hb=>h b hb|k+1,m,h,b,hb=>by
  unfold ADP at hb;split at hb
  .rename_i hk;refine Ui hc k _ (fun b hb=>?_) b hb;rw[Nat.testBit_or,B6]at hb;rcases hb with hb|hb
   .exact h b hb
   .obtain⟨o,ho,e,he,h1,rfl⟩:=bK hb;exact hc k o ho (PU (h k hk)) e he h1
  .exact Ui hc k m h b hb
theorem ADD{listed:Array Bool}(hc:KX ops listed){i:Nat}(hi:listed.getD i true=false)(n j:Nat)(h:∀oj,ops[j]?=some oj->∀e∈oj.after,Region.binds .any e=true->listed.getD e.on false=true):Mv ops n j i=false:=by
 rw[Bool.eq_false_iff];intro hw;have:=Ui hc n (nK ops j) (fun b hb=>by obtain⟨o,ho,e,he,h1,rfl⟩:=bK hb;exact h o ho e he h1) i hw
 grind[PU]
theorem Jn{L:List (Nat×Nat)}{i b:Nat}{oi:Oper}{v:Value}(hi:ops[i]?=some oi)(hsel:∀(j:Nat) (o:Oper) cs c,ops[j]?=some o->o.op≠.select cs c)
 (hQ:∀c a w,Q (.panic c) (a.put oi.dst v) w->Q (.panic c) a w) {ob:Option Obj} (rd:Bool) :
 ∀(fuel:Nat) (listed:Array Bool) (a:Act) (w:World),KX ops listed ->
  (∀j oj,ops[j]?=some oj->j≠i->listed.getD j true=false->(∀e∈oj.after,Region.binds .any e=true->e.on≠i)->oi.apart ops oj=true) ->
  i∈Region.ready .any ops listed->YieldsIf P ops (fun w=>rd=true->w.heap[b]?=ob) oi v a->(rd=true->w.heap[b]?=ob) ->
  LC P ops Q (if rd=true then (i,b)::L else L) fuel (listed.setIfInBounds i true) (a.put oi.dst v) w->LC P ops Q L (fuel+1) listed a w:=by
 intro fuel
 induction fuel with
 |zero=>
  intro listed a w hcl _ hr hy hS H;refine⟨fun h=>(by rw[h]at hr;cases hr),fun j hj=>?_⟩;by_cases hji:j=i
  .subst hji;exact hy.wpOp hi hS ⟨fun _ _ _=>rfl,H⟩
  .have:=ready_mono hj hji;rw[H.1]at this;cases this
 |succ fuel ih=>
  intro listed a w hcl hfree hr hy hS H;have hsub:∀t∈L,t∈(if rd=true then (i,b)::L else L):=by intro t ht;split<;>simp[ht]
  refine⟨fun h=>(by rw[h]at hr;cases hr),fun j hj=>?_⟩;by_cases hji:j=i
  .subst hji;refine hy.wpOp hi hS ⟨fun _ _ _=>rfl,?_⟩;have mono:∀(f:Nat) (li:Array Bool) (a:Act) (w:World),LC P ops Q (if rd=true then (j,b)::L else L) f li a w->LC P ops Q L f li a w:=by
    intro f
    induction f with
    |zero=>intro li a w h;exact h
    |succ f ihf=>intro li a w h;exact⟨h.1,fun k hk=>wpOp_mono (fun a' w' h'=>⟨fun t ht=>h'.1 t (hsub t ht),ihf _ _ _ h'.2⟩) (h.2 k hk)⟩
   exact mono _ _ _ _ H
  .have h1:=H.2 j (ready_mono hj hji);obtain⟨hjun,oj,hoj,hall⟩:=mem_ready.1 hj;have hiun:=(mem_ready.1 hr).1;have hnot:∀e∈oj.after,Region.binds .any e=true->e.on≠i:=fun e he hb heq=>by
    have h1:=hall e he hb;have h2:=PU h1;rw[heq,hiun]at h2;cases h2
   have hwait:Mv ops ops.size j i=false:=ADD hcl hiun _ j fun oj' hoj' e he hb=>by
    rw[hoj]at hoj';cases hoj';exact hall e he hb
   have h2:=wpOp_putIf hoj (hfree j oj hoj hji hjun hnot) (fun cs b=>hsel i oi cs b hi) (fun cs b=>hsel j oj cs b hoj) hQ hy h1;have hfree':∀k ok,ops[k]?=some ok->k≠i->(listed.setIfInBounds j true).getD k true=false ->
    (∀e∈ok.after,Region.binds .any e=true->e.on≠i)->oi.apart ops ok=true:=fun k ok hk hki hun hno=>by
    refine hfree k ok hk hki ?_ hno;by_cases hjk:j=k
    .subst hjk;exact hjun
    .rw[getD_set_ne true hjk]at hun;exact hun
   refine wpOp_mono (fun a' w' h3=>⟨fun t ht=>h3.2.1 t (hsub t ht),ih (listed.setIfInBounds j true) a' w' (hcl.set hj) hfree' (ready_mono hr (Ne.symm hji)) h3.1 ?_ ?_⟩) h2
   .intro hrd;rw[h3.2.1 (i,b) (by simp[hrd]) hwait];exact hS hrd
   .rw[Array.setIfInBounds_comm _ _ hji];exact h3.2.2
end
theorem Oper.NB.put{P:Program}{o:Oper}{a:Act}{w:World}{K:Act->World->Prop}(h:Oper.NB P o a w K):Oper.NB P o a w (fun a' w'=>(∃v,a'=a.put o.dst v)/\K a' w'):=by
 grind[Oper.NB]
section
variable{F:Fix}{S S' S1 S2:St}{g g' g1:Gh}{a a':Act}{w w':World}
theorem Yp{a:Act}{dst:Option Tmp}{v:Value}{s:Nat}(h:dst≠some s):(a.put dst v).tmps.getD s undef=a.tmps.getD s undef:=by
 cases dst with
 |none=>rfl|some d=>
  have hne:d≠s:=fun he=>h (he▸rfl)
  simp[Act.put,Array.getElem?_setIfInBounds_ne hne]
theorem ALA{Rn:Rel}{x:XOp}{K:St->Prop}(hx:JI x≠.eff)(hk:opK Rn x S K):∃S',ev x S=some S'/\K S':=by
 rcases hk with hk|⟨d,f,es,S1,vs,sh,cs,outs,S2,hc,_⟩
 .exact hk
 .cases x<;>first|(simp[ER]at hc;done)|exact absurd rfl hx
theorem AKo{N s:Nat}{dst:Option Nat}{op:Op}{x:XOp}{y:Operand}{P:Program}(hok:Pm P N dst op x=true)(hs:Ny x=some s)(hy:AHJ op=some y):y=.tmp s:=by
 simp only[Pm,AD]at hok;obtain⟨_,hok⟩:=hok;have tm:∀{o:Operand} {t:Nat},Bh o (.tmp t)=true->o=.tmp t:=by
  intro o t h;cases o<;>simp[Bh]at h;rw[h]
 unfold Ny at hs
 grind[AHJ]
theorem Jr:∀{r:M9},Ga r=0->Kl r=[]
 |.nil,_=>rfl|.op _ _ _ _ _,h=>by simp[Ga]at h|.dr _ r,h=>by simp only[Ga]at h;simp[Kl,Jr h]|.nl _ r,h=>by simp only[Ga]at h;simp[Kl,Jr h]|.both a b,h=>by
  simp only[Ga]at h;simp[Kl,Jr (r:=a) (by omega),Jr (r:=b) (by omega)]
theorem cI{x:XOp}:∀{sf:List Nat},HM x S sf=true->∀s∈sf,∃l,S.one (.tmp s)=some l/\O3 x S l=true
 | [],_,s,hs=>by simp at hs|t::ts,h,s,hs=>by
  simp only[HM,AD]at h;rcases Af.1 hs with rfl|hs
  .grind
  .exact cI h.2 s hs
def Fin(F0:Fix)(K:St->Prop)(ex:Exit)(a':Act)(w':World):Prop:=ex=.normal/\∃F' S' g',F0.Le F'/\Inv F' S' g' a' w'/\K S'
theorem pf{P:Program}{ops:Array Oper}{Q:Exit->Act->World->Prop}{L:List (Nat×Nat)}{listed:Array Bool}{a:Act}{w:World}(hr:Region.ready .any ops listed=[])(h:Q .normal a w):∀fuel,LC P ops Q L fuel listed a w|0=>⟨hr,h⟩|_+1=>⟨fun _=>h,by rw[hr];simp⟩
theorem KO{Rn:Rel}{F0:Fix}(hA:LD F0.A F0.P)(hRn:∀f vs sh cs outs,Rn f vs sh cs outs->Ct F0.A F0.P f vs sh cs outs){ops:Array Oper}(hsel:Region.noSelect ops=true){K:St->Prop} :
 ∀(r:M9) (listed:Array Bool) (Ls L:List (Nat×Nat)) (F:Fix) (S:St) (g:Gh) (a:Act) (w:World),F0.Le F->Inv F S g a w->(∀p∈JO ops r,Mt F0.A F0.P p.1 p.2)->KX ops listed ->
  (∀t∈L,∃s,(t.1,s)∈Ls/\Hu (a.tmps.getD s undef)=some t.2)->runK Rn r S K ->
  (GS F0.P F0.N ops true r listed Ls=true->∀fuel,Ga r<=fuel->LC F0.P ops (Fin F0 K) L fuel listed a w) /\
  (GS F0.P F0.N ops false r listed Ls=true->∀fuel,Ga r<=fuel+1->∀j∈Kl r,j∈Region.ready .any ops listed ->
   wpOp F0.P ops (Fin F0 K) j (fun a' w'=>(∀t∈L,Mv ops ops.size j t.1=false->w'.heap[t.2]?=w.heap[t.2]?)/\LC F0.P ops (Fin F0 K) L fuel (listed.setIfInBounds j true) a' w') a w)
 |.nil,listed,Ls,L,F,S,g,a,w,hLe,h,_,_,_,hk=>by
  refine⟨fun hok fuel _=>pf (by simpa[GS] using hok) ⟨rfl,F,S,g,hLe,h,hk⟩ fuel,fun hok=>by simp[GS]at hok⟩
 |.dr ds r,listed,Ls,L,F,S,g,a,w,hLe,h,hm,hcl,hL,hk=>
  KO hA hRn hsel r listed Ls L F (S.GP ds) g a w hLe (zt h ds) hm hcl hL hk
 |.nl ns r,listed,Ls,L,F,S,g,a,w,hLe,h,hm,hcl,hL,hk=>by
  obtain⟨g',hg⟩:=zw h ns;exact KO hA hRn hsel r listed Ls L F (S.Mi ns) g' a w hLe hg hm hcl hL hk
 |.both r1 r2,listed,Ls,L,F,S,g,a,w,hLe,h,hm,hcl,hL,hk=>by
  obtain⟨hk1,hk2⟩:=hk;have i1:=KO hA hRn hsel r1 listed Ls L F S g a w hLe h (fun p hp=>hm p (by simp[JO,hp])) hcl hL hk1;have i2:=KO hA hRn hsel r2 listed Ls L F S g a w hLe h (fun p hp=>hm p (by simp[JO,hp])) hcl hL hk2;constructor
  .intro hok fuel hf;simp only[GS,Bool.not_true,Bool.false_or,AD,A8,List.isEmpty_eq_false_iff,Dg,DZ]at hok;obtain⟨⟨⟨hne,hcov⟩,ho1⟩,ho2⟩:=hok;simp only[Ga]at hf;cases fuel with
   |zero=>
    exfalso;have e1:=Jr (r:=r1) (by omega);have e2:=Jr (r:=r2) (by omega);obtain⟨j,hj⟩:=List.exists_mem_of_ne_nil _ hne;have:=hcov j hj;simp[e1,e2]at this
   |succ fuel=>
    refine⟨fun h0=>absurd h0 hne,fun j hj=>?_⟩;rcases B8.1 (hcov j hj) with hj1|hj1
    .exact i1.2 ho1 fuel (by omega) j hj1 hj
    .exact i2.2 ho2 fuel (by omega) j hj1 hj
  .intro hok fuel hf j hj hjr;simp only[GS,Bool.not_false,Bool.true_or,Bool.true_and,AD]at hok;simp only[Ga]at hf;rcases B8.1 hj with hj1|hj1
   .exact i1.2 hok.1 fuel (by omega) j hj1 hjr
   .exact i2.2 hok.2 fuel (by omega) j hj1 hjr
 |.op i gd sf x r,listed,Ls,L,F,S,g,a,w,hLe,h,hm,hcl,hL,hk=>by
  obtain⟨hP,hFA,hN,_,_⟩:=hLe.P;have hA':LD F.A F.P:=by rw[hFA,hP];exact hA
  have hRn':∀f vs sh cs outs,Rn f vs sh cs outs->Ct F.A F.P f vs sh cs outs:=by rw[hFA,hP];exact hRn
  have main:∀top,GS F0.P F0.N ops top (.op i gd sf x r) listed Ls=true->∃o,ops[i]?=some o/\Kk ops o.guard gd=true/\Pm F.P F.N o.dst o.op x=true/\(∀p∈DI o.op x,Mt F.A F.P p.1 p.2)/\(∀t∈Ls,o.dst≠some t.2) /\
   (match JI x with
    |.pure=>top=true/\i∈Region.ready .any ops listed/\Region.free .any ops listed i=true/\GS F0.P F0.N ops true r (listed.setIfInBounds i true) Ls=true|.ld=>top=true/\i∈Region.ready .any ops listed/\Region.free .any ops listed i=true/\∃s,Ny x=some s/\o.dst≠some s/\GS F0.P F0.N ops true r (listed.setIfInBounds i true) ((i,s)::Ls)=true|.eff=>(top=true->i∈Region.ready .any ops listed/\∀j∈Region.ready .any ops listed,j=i)/\(∀t∈Ls,Mv ops ops.size i t.1=true\/t.2∈sf)/\GS F0.P F0.N ops true r (listed.setIfInBounds i true) Ls=true):=by
   intro top hok;unfold GS at hok;split at hok
   .cases hok
   .rename_i o ho;simp only[AD,Dg,A8,beq_eq_false_iff_ne,ne_eq]at hok;obtain⟨⟨⟨h1,h2⟩,h3⟩,h4⟩:=hok;refine⟨o,ho,h1,by rw[hP,hN];exact h2,by rw[hFA,hP];exact fun p hp=>hm p (by simp[JO,ho,hp]),h3,?_⟩;cases hkd:JI x with
    |pure=>
     simp only[hkd,AD,DZ]at h4;exact⟨h4.1.1.1,h4.1.1.2,h4.1.2,h4.2⟩
    |ld=>
     simp only[hkd,AD,DZ]at h4;obtain⟨⟨⟨k1,k2⟩,k3⟩,k4⟩:=h4;refine⟨k1,k2,k3,?_⟩;split at k4
     .rename_i s hs;simp only[AD,A8,beq_eq_false_iff_ne,ne_eq]at k4;exact⟨s,hs,k4.1,k4.2⟩
     .cases k4
    |eff=>
     simp only[hkd,AD,Dg,B6,A8,DZ,beq_iff_eq]at h4;refine⟨fun ht=>?_,fun t ht=>(h4.1.2 t ht).symm,h4.2⟩;rcases h4.1.1 with hh|hh
     .rw[ht]at hh;cases hh
     .exact hh
  have hmr:∀p∈JO ops r,Mt F0.A F0.P p.1 p.2:=fun p hp=>hm p (by simp only[JO,B8];exact .inr hp)
  obtain⟨b,hb,hk⟩:=hk;have effect:∀o,ops[i]?=some o->Kk ops o.guard gd=true->Pm F.P F.N o.dst o.op x=true->(∀p∈DI o.op x,Mt F.A F.P p.1 p.2)->(∀t∈Ls,o.dst≠some t.2)->(∀t∈Ls,Mv ops ops.size i t.1=true\/t.2∈sf) ->
   GS F0.P F0.N ops true r (listed.setIfInBounds i true) Ls=true->i∈Region.ready .any ops listed->∀fuel,Ga r<=fuel ->
   wpOp F0.P ops (Fin F0 K) i (fun a' w'=>(∀t∈L,Mv ops ops.size i t.1=false->w'.heap[t.2]?=w.heap[t.2]?)/\LC F0.P ops (Fin F0 K) L fuel (listed.setIfInBounds i true) a' w') a w:=by
   intro o ho hg hop hmo hdst hw hok hir fuel hf;have hwant:=Ta h hg hb;have hLn:∀v,∀t∈L,∃s,(t.1,s)∈Ls/\Hu ((a.put o.dst v).tmps.getD s undef)=some t.2:=by
    intro v t ht;obtain⟨s,h1,h2⟩:=hL t ht;exact⟨s,h1,by rw[Yp (hdst _ h1)];exact h2⟩
   unfold wpOp;simp only[ho,hwant];rcases hk with ⟨rfl,hsf,hk⟩|⟨rfl,S',hs,hk⟩
   .simp only[if_true];left;rw[<-hP];refine Oper.NB.wp ((AFh hA' hRn' h hop hmo hk).put.mono ?_);rintro a' w' ⟨⟨v,rfl⟩,F',S',g',hLe',hinv,hk',hfr⟩;rw[hP];refine⟨?_,(KO hA hRn hsel r (listed.setIfInBounds i true) Ls L F' S' g' _ w' (hLe.trans hLe') hinv hmr (hcl.set hir) (hLn v) hk').1 hok fuel hf⟩;intro t ht hwt;obtain⟨s,h1,h2⟩:=hL t ht;rcases hw _ h1 with hh|hh
    .rw[hwt]at hh;cases hh
    .obtain⟨l,hl,hsl⟩:=cI hsf s hh;obtain⟨q1,q2⟩:=AJI h hl hsl h2;exact hfr t.2 q1 q2
   .simp only[A7,if_false];obtain⟨g',hinv⟩:=hH h hop hs;exact⟨fun _ _ _=>trivial,(KO hA hRn hsel r (listed.setIfInBounds i true) Ls L F S' g' _ w hLe hinv hmr (hcl.set hir) (hLn _) hk).1 hok fuel hf⟩
  constructor
  .intro hok fuel hf;obtain⟨o,ho,hg,hop,hmo,hdst,hkd⟩:=main true hok;simp only[Ga]at hf;obtain⟨fuel,rfl⟩:∃f,fuel=f+1:=⟨fuel-1,by omega⟩;have hwant:=Ta h hg hb;have hLn:∀v,∀t∈L,∃s,(t.1,s)∈Ls/\Hu ((a.put o.dst v).tmps.getD s undef)=some t.2:=by
    intro v t ht;obtain⟨s,h1,h2⟩:=hL t ht;exact⟨s,h1,by rw[Yp (hdst _ h1)];exact h2⟩
   have hQ:∀{v:Value} c (a:Act) w,Fin F0 K (.panic c) (a.put o.dst v) w->Fin F0 K (.panic c) a w:=fun c a w hh=>by cases hh.1
   by_cases heff:JI x=.eff
   .rw[heff]at hkd;obtain⟨h1,h2,h3⟩:=hkd;obtain⟨hir,hall⟩:=h1 rfl;refine⟨fun h0=>(by rw[h0]at hir;cases hir),fun j hj=>?_⟩;have:=hall j hj;subst this;exact effect o ho hg hop hmo hdst h2 h3 hj fuel (by omega)
   .have hirf:i∈Region.ready .any ops listed/\Region.free .any ops listed i=true:=by
     cases hk':JI x with
     |pure=>rw[hk']at hkd;exact⟨hkd.2.1,hkd.2.2.1⟩|ld=>rw[hk']at hkd;exact⟨hkd.2.1,hkd.2.2.1⟩|eff=>exact absurd hk' heff
    obtain⟨hir,hfree⟩:=hirf;rcases hk with ⟨rfl,hsf,hk⟩|⟨rfl,S',hs,hk⟩
    .obtain⟨S',hev,hk⟩:=ALA heff hk;have hdid:=AJf h hop hmo hev;cases hk':JI x with
     |pure=>
      rw[hk']at hkd;unfold Did at hdid;rw[hk']at hdid;obtain⟨v,g',hrun,hinv⟩:=hdid;refine Jn (b:=0) (ob:=none) (v:=v) ho (Region.noSelect_spec hsel) hQ false fuel listed a w hcl (Region.free_spec ho hfree) hir (.inl ⟨hwant,fun w1 _=>by rw[<-hP];exact hrun w1⟩) (fun hh=>by cases hh) ?_;exact(KO hA hRn hsel r _ Ls L F S' g' _ w hLe hinv hmr (hcl.set hir) (hLn v) hk).1 hkd.2.2.2 fuel (by omega)
     |ld=>
      rw[hk']at hkd;unfold Did at hdid;rw[hk']at hdid;obtain⟨v,g',y,hy,hrun,hinv⟩:=hdid;obtain⟨_,_,_,s,hs,hds,hokr⟩:=hkd;have hys:=AKo hop hs hy;subst hys;have hev:a.eval (.tmp s)=a.tmps.getD s undef:=by simp[Act.eval]
      cases hblk:Hu (a.tmps.getD s undef) with
      |none=>
       refine Jn (b:=0) (ob:=none) (v:=v) ho (Region.noSelect_spec hsel) hQ false fuel listed a w hcl (Region.free_spec ho hfree) hir (.inl ⟨hwant,fun w1 _=>by rw[<-hP];exact hrun w1 (fun b hb=>by rw[hev,hblk]at hb;cases hb)⟩) (fun hh=>by cases hh) ?_;refine(KO hA hRn hsel r _ ((i,s)::Ls) L F S' g' _ w hLe hinv hmr (hcl.set hir) ?_ hk).1 hokr fuel (by omega);intro t ht;obtain⟨s',h1,h2⟩:=hLn v t ht;exact⟨s',by simp[h1],h2⟩
      |some b=>
       refine Jn (b:=b) (ob:=w.heap[b]?) (v:=v) ho (Region.noSelect_spec hsel) hQ true fuel listed a w hcl (Region.free_spec ho hfree) hir (.inl ⟨hwant,fun w1 hw1=>by
        rw[<-hP];refine hrun w1 (fun b' hb'=>?_);rw[hev,hblk]at hb';cases hb';exact hw1 rfl⟩) (fun _=>rfl) ?_
       refine(KO hA hRn hsel r _ ((i,s)::Ls) ((i,b)::L) F S' g' _ w hLe hinv hmr (hcl.set hir) ?_ hk).1 hokr fuel (by omega);intro t ht;rcases Af.1 ht with rfl|ht
       .exact⟨s,by simp,by rw[Yp hds];exact hblk⟩
       .obtain⟨s',h1,h2⟩:=hLn v t ht;exact⟨s',by simp[h1],h2⟩
     |eff=>exact absurd hk' heff
    .obtain⟨g',hinv⟩:=hH h hop hs;have hrest:∃Ls',(∀t∈Ls,t∈Ls')/\GS F0.P F0.N ops true r (listed.setIfInBounds i true) Ls'=true:=by
      cases hk':JI x with
      |pure=>rw[hk']at hkd;exact⟨Ls,fun _ h=>h,hkd.2.2.2⟩|ld=>rw[hk']at hkd;obtain⟨_,_,_,s,_,_,hokr⟩:=hkd;exact⟨_,fun t ht=>List.mem_cons_of_mem _ ht,hokr⟩
      |eff=>exact absurd hk' heff
     obtain⟨Ls',hsub,hokr⟩:=hrest;refine Jn (b:=0) (ob:=none) (v:=undef) ho (Region.noSelect_spec hsel) hQ false fuel listed a w hcl (Region.free_spec ho hfree) hir (.inr ⟨hwant,rfl⟩) (fun hh=>by cases hh) ?_;refine(KO hA hRn hsel r _ Ls' L F S' g' _ w hLe hinv hmr (hcl.set hir) ?_ hk).1 hokr fuel (by omega);intro t ht;obtain⟨s',h1,h2⟩:=hLn undef t ht;exact⟨s',hsub _ h1,h2⟩
  .intro hok fuel hf j hj hjr;obtain⟨o,ho,hg,hop,hmo,hdst,hkd⟩:=main false hok;simp only[Kl,DO]at hj;subst hj;simp only[Ga]at hf;cases hk':JI x with
   |pure=>rw[hk']at hkd;cases hkd.1
   |ld=>rw[hk']at hkd;cases hkd.1
   |eff=>
    rw[hk']at hkd;exact effect o ho hg hop hmo hdst hkd.2.1 hkd.2.2 hjr fuel (by omega)
end
def Ex.exit:Ex->Exit|.n=>.normal|.x id=>.exit id|.r=>.ret
def End(F0:Fix)(Q:Ex->St->Prop)(ex:Exit)(a:Act)(w:World):Prop:=∃e F' S' g',ex=Ex.exit e/\F0.Le F'/\Inv F' S' g' a w/\Q e S'
theorem DN{Rn:Rel}{F0:Fix}(hA:LD F0.A F0.P)(hRn:∀f vs sh cs outs,Rn f vs sh cs outs->Ct F0.A F0.P f vs sh cs outs) :
 ∀(x:J0) (c:Code) (F:Fix) (S:St) (g:Gh) (a:Act) (w:World) (Q:Ex->St->Prop),F0.Le F->Inv F S g a w->codeOk F0.P F0.N c x=true->(∀p∈DM c x,Mt F0.A F0.P p.1 p.2)->wp Rn x S Q ->
  c.wp F0.P (End F0 Q) a w
 |.skip,c,F,S,g,a,w,Q,hL,h,hok,hm,hk=>by
  cases c<;>simp[codeOk]at hok;exact wp_skip ⟨.n,F,S,g,rfl,hL,h,hk⟩
 |.region xs EM,c,F,S,g,a,w,Q,hL,h,hok,hm,hk=>by
  cases c<;>simp only[codeOk,AD,A8,A7]at hok;obtain⟨rfl,hok⟩:=hok;refine wp_mono (wp_region_list (Yh hA hRn xs _ F S g a w hL h hok hm hk)) ?_;rintro e a' w' ⟨rfl,F',S',g',hL',h',ks,hk'⟩;exact⟨.n,F',_,g',rfl,hL',h'.clean ks,hk'⟩
 |.SZ r EM,c,F,S,g,a,w,Q,hL,h,hok,hm,hk=>by
  cases c<;>simp only[codeOk,AD,decide_eq_true_eq,A7]at hok;rename_i id ops d;obtain⟨⟨⟨⟨rfl,hmo⟩,hsel⟩,hlen⟩,hok⟩:=hok;have hok:=Ij _ _ _ _ hok;rw[AHz]at hok;have hcl:KX ops (Array.replicate ops.size false):=by
   intro j oj hj hl;have:j<ops.size:=(Aj.1 hj).1;simp[this]at hl
  refine wp_mono (wp_region_any hmo (ZV _ _ _ _ ((KO hA hRn hsel r _ [] [] F S g a _ hL (h.drawn _) hm hcl (fun t ht=>by cases ht) hk).1 hok _ hlen))) ?_;rintro e a' w' ⟨rfl,F',S',g',hL',h',ks,hk'⟩;exact⟨.n,F',_,g',rfl,hL',h'.clean ks,hk'⟩
 |.seq p q,c,F,S,g,a,w,Q,hL,h,hok,hm,hk=>by
  cases c<;>simp only[codeOk,AD,A7]at hok;refine wp_seq (wp_mono (DN hA hRn p _ F S g a w _ hL h hok.1 (fun p hp=>hm p (by simp[DM,hp])) hk) ?_);rintro e a' w' ⟨e',F',S',g',rfl,hL',h',hk'⟩;cases e' with
  |n=>exact DN hA hRn q _ F' S' g' a' w' _ hL' h' hok.2 (fun p hp=>hm p (by simp[DM,hp])) hk'|x id=>exact⟨.x id,F',S',g',rfl,hL',h',hk'⟩|r=>exact⟨.r,F',S',g',rfl,hL',h',hk'⟩
 |.cond c' kt ke t e,c,F,S,g,a,w,Q,hL,h,hok,hm,hk=>by
  cases c with
  |cond co tc ec=>
   cases co with
   |tmp s=>
    simp only[codeOk,AD,beq_iff_eq]at hok;obtain⟨⟨rfl,ht⟩,he⟩:=hok;obtain⟨b,hb,ks,hk⟩:=hk;have hsc:Sc (.bool b) (a.eval (.tmp s)):=L7 (o:=.tmp s) h hb (by simp[Bh]) (fun p hp=>by simp[Bk]at hp);refine wp_cond (t:=b) hsc ?_;cases b with
    |true=>simp only[if_true]at hk ⊢;exact DN hA hRn t _ F _ g a w _ hL (h.clean ks) ht (fun p hp=>hm p (by simp[DM,hp])) hk|false=>simp only[A7,if_false]at hk ⊢;exact DN hA hRn e _ F _ g a w _ hL (h.clean ks) he (fun p hp=>hm p (by simp[DM,hp])) hk
   |_=>simp[codeOk]at hok
  |_=>simp[codeOk]at hok
 |.block id b,c,F,S,g,a,w,Q,hL,h,hok,hm,hk=>by
  cases c<;>simp only[codeOk,AD,beq_iff_eq,A7]at hok;obtain⟨rfl,hok⟩:=hok;refine wp_block (wp_mono (DN hA hRn b _ F S g a w _ hL h hok (fun p hp=>hm p (by simpa[DM] using hp)) hk) ?_);rintro e a' w' ⟨e',F',S',g',rfl,hL',h',hk'⟩;cases e' with
  |n=>exact⟨.n,F',S',g',rfl,hL',h',hk'⟩|x i=>
   simp only[Ex.exit,Exit.inBlock];dsimp only at hk';split
   .rename_i hi;rw[if_pos hi]at hk';exact⟨.n,F',S',g',rfl,hL',h',hk'⟩
   .rename_i hi;rw[if_neg hi]at hk';exact⟨.x i,F',S',g',rfl,hL',h',hk'⟩
  |r=>exact⟨.r,F',S',g',rfl,hL',h',hk'⟩
 |.loop b,c,F,S,g,a,w,Q,hL,h,hok,hm,hk=>by
  cases c<;>simp only[codeOk,A7]at hok;obtain⟨n,hk⟩:=hk;refine wp_loop_rounds n ?_
  induction n generalizing F S g a w with
  |zero=>exact hk.elim|succ n ih=>
   rw[rounds_succ];refine wp_mono (DN hA hRn b _ F S g a w _ hL h hok (fun p hp=>hm p (by simpa[DM] using hp)) hk) ?_;rintro e a' w' ⟨e',F',S',g',rfl,hL',h',hk'⟩;cases e' with
   |n=>exact ih F' S' g' a' w' hL' h' hk'|x id=>exact⟨.x id,F',S',g',rfl,hL',h',hk'⟩|r=>exact⟨.r,F',S',g',rfl,hL',h',hk'⟩
 |.exit id,c,F,S,g,a,w,Q,hL,h,hok,hm,hk=>by
  cases c<;>simp only[codeOk,beq_iff_eq,A7]at hok;subst hok;exact wp_exit ⟨.x _,F,S,g,rfl,hL,h,hk⟩
 |.ret,c,F,S,g,a,w,Q,hL,h,hok,hm,hk=>by
  cases c<;>simp[codeOk]at hok;exact wp_ret ⟨.r,F,S,g,rfl,hL,h,hk⟩
 |.scope b,c,F,S,g,a,w,Q,hL,h,hok,hm,hk=>by
  cases c with
  |scope c=>
   simp only[codeOk]at hok;refine wp_scope_straight (wp_mono (DN hA hRn b _ F S g a w _ hL h hok (fun p hp=>hm p (by simpa[DM] using hp)) hk) ?_);rintro e a' w' ⟨e',F',S',g',rfl,hL',h',hk'⟩;cases e'<;>exact⟨_,F',S',g',rfl,hL',h',hk'⟩
  |cond co tc ec=>
   cases co with
   |const v=>
    cases v with
    |bool t=>
     cases t with
     |true=>
      simp only[codeOk]at hok;exact wp_cond (t:=true) rfl (DN hA hRn b _ F S g a w _ hL h hok (fun p hp=>hm p (by simpa[DM] using hp)) hk)
     |false=>
      simp only[codeOk]at hok;exact wp_cond (t:=false) rfl (DN hA hRn b _ F S g a w _ hL h hok (fun p hp=>hm p (by simpa[DM] using hp)) hk)
    |_=>simp[codeOk]at hok
   |_=>simp[codeOk]at hok
  |_=>simp[codeOk]at hok
 |.or p q,c,F,S,g,a,w,Q,hL,h,hok,hm,hk=>by
  have hok':codeOk F0.P F0.N c p=true/\codeOk F0.P F0.N c q=true:=by
   cases c<;>first|(simpa[codeOk] using hok)|skip
   all_goals (rename_i co _ _;cases co<;>first|(simpa[codeOk] using hok)|skip)
   all_goals (rename_i v;cases v<;>first|(simpa[codeOk] using hok)|skip)
   all_goals (rename_i t;cases t<;>simpa[codeOk] using hok)
  have hm':∀x,x∈DM c p\/x∈DM c q->Mt F0.A F0.P x.1 x.2:=by
   intro x hx;refine hm x ?_;have:DM c (.or p q)=DM c p++DM c q:=by
    cases c<;>first|rfl|skip
    all_goals (rename_i co _ _;cases co<;>first|rfl|skip)
    all_goals (rename_i v;cases v<;>first|rfl|skip)
    all_goals (rename_i t;cases t<;>rfl)
   rw[this];exact B8.2 hx
  rcases hk with hk|hk
  .exact DN hA hRn p c F S g a w Q hL h hok'.1 (fun x hx=>hm' x (.inl hx)) hk
  .exact DN hA hRn q c F S g a w Q hL h hok'.2 (fun x hx=>hm' x (.inr hx)) hk
 |.dead,c,F,S,g,a,w,Q,hL,h,hok,hm,hk=>hk.elim
end Lv
