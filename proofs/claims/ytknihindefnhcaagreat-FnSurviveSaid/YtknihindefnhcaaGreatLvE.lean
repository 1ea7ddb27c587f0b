/- The light machine is right about the program's code. -/
import Derived.Test.YtknihindefnhcaaGreatLvC
import Derived.Laws.ResultCell
import Derived.ProofKit
import Derived.OpenShut
set_option linter.all false
open Array renaming getElem?_eq_some_iff->BJ
open Bool renaming and_eq_true->AD
open List renaming drop_left->Ej,getElem?_append_left->BS,getElem?_append_right->BN,getElem?_cons_zero->AN,getElem?_eq_getElem->AU,getElem?_eq_some_iff->AO,getElem?_map->A0,getElem_mem->Aw,headD_cons->I4,length_append->AH,mem_append->Br,mem_cons->Ae,mem_iff_getElem?->EW,take_left->Hl
open Nat renaming add_sub_cancel->Cl,le_refl->Aj,lt_of_lt_of_le->BZ,lt_or_ge->AV,zero_add->A1
open Option renaming map_eq_some_iff->AM
open Option.some renaming injEq->AE
open Prod.mk renaming injEq->BC
open Go.Result renaming andThen->Aq
open Go.Sem renaming run_bind->Ao
namespace Lv
open Go
def da(s:Nat)(md:Md)(V:V)(e:Ent):Prop:=
 match md,V with
 |.v,.v sh cs=>e=⟨sh,cs.map (Ew s)⟩|.v,.f xf caps=>∃ls,Q8 s caps=some ls/\e=⟨.one,[.fn xf ls]⟩|.p,.p cs=>e=⟨.one,[.vp (.old s) cs]⟩|.b,.b _=>e=⟨.one,[.bp s 0]⟩|.o,.o sh cs=>e=⟨sh,cs.map I0⟩|.m,.m sh cs=>e=⟨sh,cs.map I0⟩/\Hz sh cs.length=true|_,_=>False
structure Start(i0:Nat)(ms:List Md)(vs:List V)(S S':St):Prop where
 tm:∀s e,get S'.tm s=some e->get S.tm s=some e\/∃(j:Nat) (md:Md) (V:V),s=i0+j/\ms[j]?=some md/\vs[j]?=some V/\da s md V e
 bx:∀id ls,get S'.bx id=some ls->get S.bx id=some ls\/∃(j:Nat) (cs:List T),id=i0+j/\ms[j]?=some .b/\vs[j]?=some (.b cs)/\ls=cs.map (Ew id)
 pin:∀p∈S'.pin,p∈S.pin\/∃j:Nat,p=i0+j/\(ms[j]?=some .b\/ms[j]?=some .m)
 m:∀(j:Nat),ms[j]?=some .m->∃sh cs,vs[j]?=some (.m sh cs)/\Hz sh cs.length=true
theorem Start.step{y:Nat}{md:Md}{ms:List Md}{V0:V}{vs:List V}{S S1 S':St}(h:Start (y+1) ms vs S1 S')
 (Y:∀s e,get S1.tm s=some e->get S.tm s=some e\/(s=y/\da s md V0 e))
 (L:∀id ls,get S1.bx id=some ls->get S.bx id=some ls\/∃cs,id=y/\md=.b/\V0=.b cs/\ls=cs.map (Ew id))
 (Q:∀p∈S1.pin,p∈S.pin\/(p=y/\(md=.b\/md=.m))) (O:md=.m->∃sh cs,V0=.m sh cs/\Hz sh cs.length=true):Start y (md::ms) (V0::vs) S S' where
 tm s e c:=by rcases h.tm s e c with c|⟨j,J,V',rfl,q,B,E⟩;rcases Y s e c with c|⟨rfl,c⟩;exact .inl c;exact .inr ⟨0,md,V0,rfl,rfl,rfl,c⟩;exact .inr ⟨j+1,J,V',by omega,by simpa using q,by simpa using B,E⟩
 bx id ls c:=by rcases h.bx id ls c with c|⟨j,cs,rfl,q,B,E⟩;rcases L id ls c with c|⟨cs,rfl,rfl,rfl,c⟩;exact .inl c;exact .inr ⟨0,cs,rfl,rfl,rfl,c⟩;exact .inr ⟨j+1,cs,by omega,by simpa using q,by simpa using B,E⟩
 pin p c:=by rcases h.pin p c with c|⟨j,rfl,q⟩;rcases Q p c with c|⟨rfl,c⟩;exact .inl c;exact .inr ⟨0,rfl,by rcases c with rfl|rfl<;>simp⟩;exact .inr ⟨j+1,by omega,by simpa using q⟩
 m j I:=by
  cases j with
  |zero=>simp[AN,AE]at I;obtain⟨sh,cs,rfl,h⟩:=O I;exact⟨sh,cs,rfl,h⟩
  |succ j=>exact h.m j (by simpa using I)
theorem Qr:∀(ms:List Md) (i:Nat) (vs:List V) (S S':St),initK i ms vs S=some S'->Start i ms vs S S'
 | [],i,vs,S,S',h=>by
  cases vs with
  |nil=>simp[initK,AE]at h;subst h;exact⟨λ_ _ h=>.inl h,λ_ _ h=>.inl h,λ_ h=>.inl h,by simp⟩
  |cons=>simp[initK]at h
 |md::ms,i,vs,S,S',h=>by
  cases vs with
  |nil=>cases md<;>simp[initK]at h
  |cons V vs=>
   have key:∀{e:Ent},da i md V e->∀s y,get (put S.tm i e) s=some y->get S.tm s=some y\/(s=i/\da s md V y):=by intro e J s y h;rw[GQ]at h;split at h;rename_i E;cases h;subst E;exact .inr ⟨rfl,J⟩;exact .inl h
   cases md with
   |v=>
    cases V with
    |v sh cs=>have c:=Qr ms _ vs _ S' h;refine c.step (md:=.v) (key rfl) (λ_ _ h=>.inl h) (λ_ h=>.inl h) (λh=>by cases h)
    |f xf caps=>simp[initK]at h;split at h;rename_i ls I;have c:=Qr ms _ vs _ S' h;refine c.step (md:=.v) (key ⟨ls,I,rfl⟩) (λ_ _ h=>.inl h) (λ_ h=>.inl h) (λh=>by cases h);cases h
    |_=>simp[initK]at h
   |p=>
    cases V with
    |p cs=>have c:=Qr ms _ vs _ S' h;refine c.step (md:=.p) (key rfl) (λ_ _ h=>.inl h) (λ_ h=>.inl h) (λh=>by cases h)
    |_=>simp[initK]at h
   |b=>
    cases V with
    |b cs=>
     have c:=Qr ms _ vs _ S' h;refine c.step (md:=.b) (key rfl) ?_ ?_ (λh=>by cases h);intro id ls B;rw[GQ]at B;split at B;rename_i E;cases B;exact .inr ⟨cs,E.symm▸rfl,rfl,rfl,by rw[E]⟩;exact .inl B;intro p j;rcases Ae.1 j with rfl|j;exact .inr ⟨rfl,.inl rfl⟩;exact .inl j
    |_=>simp[initK]at h
   |o=>
    cases V with
    |o sh cs=>have c:=Qr ms _ vs _ S' h;refine c.step (md:=.o) (key rfl) (λ_ _ h=>.inl h) (λ_ h=>.inl h) (λh=>by cases h)
    |_=>simp[initK]at h
   |m=>
    cases V with
    |m sh cs=>
     simp only[initK]at h;split at h;rename_i q;have c:=Qr ms _ vs _ S' h;refine c.step (md:=.m) (key ⟨rfl,q⟩) (λ_ _ h=>.inl h) ?_ (λ_=>⟨sh,cs,rfl,q⟩);intro p j;rcases Ae.1 j with rfl|j;exact .inr ⟨rfl,.inr rfl⟩;exact .inl j;cases h
    |_=>simp[initK]at h
theorem iL{i}:∀{caps:List V} {ls:List AS},Q8 i caps=some ls->ls.length=caps.length/\∀(c:Nat) l,ls[c]?=some l->(∃x,caps[c]?=some (.v .one [x])/\l=Ew i x)\/∃cs,caps[c]?=some (.p cs)/\l=.vp (.old i) cs
 | [],ls,h=>by simp[Q8,AE]at h;subst h;simp|V::vs,ls,h=>by
  unfold Q8 at h;split at h;cases ‹V::vs=[]›;next x y e=>cases e;rw[AM]at h;obtain⟨ls',j,rfl⟩:=h;have ⟨B,E⟩:=iL j;refine⟨by simp[B],λc l q=>?_⟩;cases c with|zero=>simp[AN,AE]at q;subst q;exact .inl ⟨x,rfl,rfl⟩|succ c=>simpa using E c l (by simpa using q)
  rename_i cs y e;cases e;rw[AM]at h;obtain⟨ls',j,rfl⟩:=h;have ⟨B,E⟩:=iL j;grind[Option.some.injEq];cases h
section
variable{A:Nat->Nat->List Md->Prop}{P:Program}{w:World}{R:Nat->Blk}{G:Nat->Nat->Blk}{U:Nat->List Value}{ms:List Md}{vs:List V}{us:List Value}
def K2(h:OH A P w R G U ms vs us)(N:Nat):Fix where
 P:=P
 A:=A
 R:=R
 K b:=b<w.heap.size/\∀i c,¬G i c b
 RK k b hb:=⟨h.rlt k b hb,λi c=>h.rg k i c b hb⟩
 w0:=w
 pv i:=us.getD i undef
 β0 i:=match us[i]? with|some (.pointer (some a))=>a.block|_=>0
 N:=N
def tv0(ms:List Md)(vs:List V)(U:Nat->List Value)(us:List Value)(s:Nat):List Value:=
 match ms[s]?,vs[s]? with
 |some .v,some (.v _ _)=>U s|some .o,_=>U s|some .m,_=>U s|_,_=>[us.getD s undef]
def gh0(h:OH A P w R G U ms vs us)(N:Nat):Gh where
 β:=(K2 h N).β0
 tv:=tv0 ms vs U us
 bv:=U
 fp r b:=match r with|.tmp s c=>G s c b/\(ms[s]?=some .o\/ms[s]?=some .m)|.cell _ _=>False
def AOG(us:List Value)(N:Nat):Act:={ tmps:=us.toArray++Array.replicate (N-us.toArray.size) undef,defers:=[]}
theorem getD_some{p:Type}{xs:List p}{i}{x d}(h:xs[i]?=some x):xs.getD i d=x:=by simp[h]
set_option maxHeartbeats 1000000 in
theorem AcL(h:OH A P w R G U ms vs us){N}(hN:ms.length<=N){S0}(hi:initK 0 ms vs ⟨[],[],[]⟩=some S0):Inv (K2 h N) S0 (gh0 h N) (AOG us N) w:=by
 have hs:=Qr ms 0 vs _ S0 hi;have htm:∀s e,get S0.tm s=some e->∃(md:Md) (V:V) (u:Value),ms[s]?=some md/\vs[s]?=some V/\us[s]?=some u/\da s md V e/\dZ A P w (R s) (G s) (U s) md V u:=by
  intro s e Y;rcases hs.tm s e Y with Y|⟨j,md,V,rfl,q,J,Q⟩;simp[get]at Y;rw[A1]at Q ⊢;have hj:j<us.length:=by rw[h.nJ];exact(AO.1 q).1
  exact⟨md,V,us[j],q,J,by simp,Q,h.arg j md V _ q J (by simp[hj])⟩
 have hbx:∀id ls,get S0.bx id=some ls->∃cs blk E,ms[id]?=some .b/\ls=cs.map (Ew id)/\us[id]?=some (.pointer (some ⟨blk,0,none⟩))/\w.heap[blk]?=some (.cells (U id).toArray E (0,0))/\LA w (R id) cs (U id)/\(∀c b,G id c b↔c=0/\b=blk)/\(K2 h N).β0 id=blk:=by
  intro id ls Y;rcases hs.bx id ls Y with Y|⟨j,cs,rfl,q,J,Q⟩;simp[get]at Y;rw[A1]at Q ⊢;have hj:j<us.length:=by rw[h.nJ];exact(AO.1 q).1
  have ⟨blk,E,k1,k2,k3,k4⟩:=h.arg j _ _ us[j] q J (by simp);have hu:us[j]?=some (.pointer (some ⟨blk,0,none⟩)):=by rw[<-k1];simp
  exact⟨cs,blk,E,q,Q,hu,k2,k3,k4,by simp[K2,hu]⟩
 have hbx':∀id,(get S0.bx id).isSome->ms[id]?=some .b/\G id 0 ((K2 h N).β0 id):=by intro id Z;have ⟨ls,L⟩:=Option.isSome_iff_exists.1 Z;have ⟨cs,blk,E,q,_,_,_,_,J,Q⟩:=hbx id ls L;exact⟨q,(J _ _).2 ⟨rfl,Q⟩⟩
 have hvno:∀{s:Nat} {cs:List T} {c:Nat} {x:T},(cs.map (Ew s))[c]?≠some (.ow x):=by intro s cs c x O;rw[A0,AM]at O;have ⟨y,_,hy⟩:=O;exact P5 hy
 have hal:∀r,CP S0 r->∃s c,r=.tmp s c/\(ms[s]?=some .o\/ms[s]?=some .m):=by
  rintro r ⟨x,O⟩;cases r with
  |tmp s c=>refine⟨s,c,rfl,?_⟩;simp only[St.at]at O;split at O;rename_i e Y;have ⟨md,V,u,q,J,Q,I,_⟩:=htm s e Y;unfold da at I;split at I;subst I;exact absurd O hvno;obtain⟨ls,_,rfl⟩:=I;cases c<;>simp at O;subst I;cases c<;>simp at O;subst I;cases c<;>simp at O;exact .inl q;exact .inr q;exact I.elim;cases O
  |cell b c=>simp only[St.at]at O;split at O;rename_i ls L;obtain⟨cs,blk,E,_,rfl,_⟩:=hbx b ls L;exact absurd O hvno;cases O
 have hent:∀{s:Nat} {md:Md} {V:V} {u:Value} {e:Ent},ms[s]?=some md->vs[s]?=some V->us[s]?=some u->da s md V e->dZ A P w (R s) (G s) (U s) md V u ->
  u=mkV e.sh (tv0 ms vs U us s)/\(tv0 ms vs U us s).length=e.cs.length/\∀(c:Nat) l,e.cs[c]?=some l->∃v,(tv0 ms vs U us s)[c]?=some v/\Bz (K2 h N) S0 (gh0 h N) w ((gh0 h N).fp (.tmp s c)) l v:=by
  intro s md V u e q J Q I h5;have hone:∀{l:AS},(∀fp,Bz (K2 h N) S0 (gh0 h N) w fp l u)->tv0 ms vs U us s=[us.getD s undef]->e=⟨.one,[l]⟩ ->
   u=mkV e.sh (tv0 ms vs U us s)/\(tv0 ms vs U us s).length=e.cs.length/\∀(c:Nat) l,e.cs[c]?=some l->∃v,(tv0 ms vs U us s)[c]?=some v/\Bz (K2 h N) S0 (gh0 h N) w ((gh0 h N).fp (.tmp s c)) l v:=by
   intro l B ht Y;subst Y;have hu:us.getD s undef=u:=getD_some Q;rw[ht,hu];refine⟨rfl,rfl,?_⟩;intro c l' hl';cases c with
   |zero=>simp only[AN,AE]at hl';subst hl';exact⟨u,rfl,B _⟩|succ c=>simp at hl'
  unfold da at I;split at I;rename_i sh cs;subst I;have ⟨k1,k2,k3⟩:=h5;have ht:tv0 ms vs U us s=U s:=by simp only[tv0,q,J]
  rw[ht];refine⟨k1,by simpa using k2.1,?_⟩;intro c l B;rw[A0,AM]at B;obtain⟨y,hy,rfl⟩:=B;have ⟨z,hz,hV⟩:=k2.2 c y hy;exact⟨z,hz,SH hV⟩;rename_i xf caps;obtain⟨ls,L,rfl⟩:=I;have ⟨⟨n,cv,k1,k2,k3,k4⟩,_⟩:=h5;have ⟨q1,q2⟩:=iL L;refine hone (l:=.fn xf ls) ?_ (by simp only[tv0,q,J]) rfl;intro fp;refine⟨n,cv,k1,k2,by rw[k3,q1],?_⟩;intro i l c B hc;rcases q2 i l B with ⟨x,O,rfl⟩|⟨cs,O,rfl⟩;have hV:View w (R s) x c:=k4 i _ c O hc;have:=SH (F:=K2 h N) (S:=S0) (g:=gh0 h N) (k:=s) (fp:=λ_=>False) hV;cases x<;>exact this;have hV:W0 w (R s) cs c:=k4 i _ c O hc;exact hV;rename_i cs;exact hone (l:=.vp (.old s) cs) (λfp=>h5.1) (by simp only[tv0,q]) I;rename_i cs;refine hone (l:=.bp s 0) (λfp=>?_) (by simp only[tv0,q]) I;have ⟨blk,E,k1,_⟩:=h5;subst k1;show _=_;simp[gh0,K2,Q];rename_i sh cs;subst I;have ⟨k1,k2,k3⟩:=h5;have ht:tv0 ms vs U us s=U s:=by simp only[tv0,q]
  rw[ht];refine⟨k1,by simpa using k2.1,?_⟩;intro c l B;rw[A0,AM]at B;obtain⟨y,hy,rfl⟩:=B;have ⟨z,hz,hO⟩:=k2.2 c y hy;exact⟨z,hz,Zq (hO.congr λb=>⟨λhb=>hb.1,λhb=>⟨hb,.inl q⟩⟩)⟩;rename_i sh cs;have ⟨I,_⟩:=I;subst I;have ⟨k1,k2,k3⟩:=h5;have ht:tv0 ms vs U us s=U s:=by simp only[tv0,q]
  rw[ht];refine⟨k1,by simpa using k2.1,?_⟩;intro c l B;rw[A0,AM]at B;obtain⟨y,hy,rfl⟩:=B;have ⟨z,hz,hO⟩:=k2.2 c y hy;exact⟨z,hz,Zq (hO.congr λb=>⟨λhb=>hb.1,λhb=>⟨hb,.inr q⟩⟩)⟩;exact I.elim
 have hget:∀{s:Nat} {u:Value},us[s]?=some u->(AOG us N).tmps.getD s undef=u:=by intro s u hu;have B:s<us.length:=(AO.1 hu).1;simp only[AOG,Array.getD_eq_getD_getElem?];rw[Array.getElem?_append_left (by simpa using B)];simp[hu]
 refine⟨?_,?_,?_,?_,?_,?_,?_,?_,λb hb=>rfl,λb hb=>hb.1,.refl,rfl,?_,?_⟩;intro r l B;cases r with
 |tmp s c=>simp only[St.at]at B;split at B;rename_i e Y;have ⟨md,V,u,q,J,Q,I,h5⟩:=htm s e Y;exact(hent q J Q I h5).2.2 c l B;cases B
 |cell b c=>simp only[St.at]at B;split at B;rename_i ls L;obtain⟨cs,blk,E,_,rfl,_,_,hv,_⟩:=hbx b ls L;rw[A0,AM]at B;obtain⟨y,hy,rfl⟩:=B;have ⟨z,hz,hV⟩:=hv.2 c y hy;exact⟨z,hz,SH hV⟩;cases B
 intro s e Y;have ⟨md,V,u,q,J,Q,I,h5⟩:=htm s e Y;refine⟨BZ (AO.1 q).1 hN,?_⟩;rw[hget Q];have:=hent q J Q I h5;exact⟨this.1,this.2.1⟩;intro id ls L;obtain⟨cs,blk,E,_,rfl,_,q,hv,_,J⟩:=hbx id ls L;exact⟨⟨E,by rw[show (gh0 h N).β id=blk from J];exact q⟩,by simpa[gh0] using hv.1⟩;intro r r' hr hr' hne b hf hf';obtain⟨s,c,rfl,_⟩:=hal r hr;obtain⟨s',c',rfl,_⟩:=hal r' hr';refine h.gg s c s' c' b hf.1 ?_ hf'.1;by_cases hs:s=s';subst hs;exact .inr λhc=>hne (by rw[hc]);exact .inl hs;intro r id hr Z hf;obtain⟨s,c,rfl,hm⟩:=hal r hr;have ⟨q,J⟩:=hbx' id Z;refine h.gg s c id 0 _ hf.1 (.inl ?_) J;rintro rfl;rw[q]at hm;rcases hm with hm|hm<;>cases hm;intro r hr b hf hk;obtain⟨s,c,rfl,hm⟩:=hal r hr;exact hk.2 s c hf.1;intro id id' Z hid' heq;have ⟨q,J⟩:=hbx' id Z;have ⟨h1',h2'⟩:=hbx' id' hid';refine Classical.byContradiction λhne=>h.gg id 0 id' 0 _ J (.inl hne) ?_;rw[show (K2 h N).β0 id=(K2 h N).β0 id' from heq];exact h2';intro id Z hk;have ⟨q,J⟩:=hbx' id Z;exact hk.2 id 0 J;have:=h.nJ;simp[AOG,K2];omega;intro p hp;rcases hs.pin p hp with hp|⟨j,rfl,hj⟩;cases hp;have B:j<us.length:=by rw[h.nJ];rcases hj with hj|hj<;>exact(AO.1 hj).1
 rw[A1];refine⟨?_,λ_=>rfl⟩;have hu:us[j]?=some us[j]:=by simp
 rw[hget hu];simp[K2,B]
end
section
variable{F:Fix}{S S':St}{g g':Gh}{a:Act}{w w':World}{P:Program}
variable{tmps:Array Value}{ls:List AS}{vs:List Value}{t:TypeId}
def WW(tmps:Array Value):ResultVar->Sem Value
 |.tmp t=>pure (tmps.getD t undef)|.cell a t=>do loadVar t (<-asAddr (tmps.getD a undef))
theorem Tc{fn:Func}(h:(fn.results.toList.mapM (WW tmps)).run P w=.ok vs w) :
 (results fn tmps).run P w=.ok (if h:vs.toArray.size=1 then vs.toArray[0] else .tuple vs.toArray) w:=by
 have c:(fn.results.mapM (WW tmps)).run P w=.ok vs.toArray w:=by
  have:fn.results=fn.results.toList.toArray:=by simp
  rw[this,List.mapM_toArray];simp[h,Aq,go_sem]
 show ((fn.results.mapM (WW tmps)) >>= λvs=>pure (if h:vs.size=1 then vs[0] else .tuple vs)).run P w=_;rw[Ao,c];rfl
theorem Sb{rv:ResultVar}{rvs:List ResultVar}{v:Value}(c:(WW tmps rv).run P w=.ok v w)(e:(rvs.mapM (WW tmps)).run P w=.ok vs w) :
 ((rv::rvs).mapM (WW tmps)).run P w=.ok (v::vs) w:=by simp[List.mapM_cons,Ao,Aq,c,e,go_sem]
theorem AEE{b o}{d}{v}(j:P.underlying t=some d)(y:∀fs,d≠.struct fs)(c:∀n e,d≠.array n e)(q:w.cell? ⟨b,o,none⟩=some v) :
 (loadVar t ⟨b,o,none⟩).run P w=.ok v w:=by simp[loadVar,isAgg,run_underlying j,go_sem];cases d<;>simp_all[go_sem]
theorem fJ{b o:Nat}{fs:Array Field}{i:TypeInfo}(y:P.underlying t=some (.struct fs))(hi:P.info? t=some i)(q:vs.length=i.size)
 (c:∀(j:Nat) v,vs[j]?=some v->w.cell? ⟨b,o+j,none⟩=some v) :
 (loadVar t ⟨b,o,none⟩).run P w=.ok (.agg vs.toArray) w:=by have h:=run_loadCells_list (P:=P) (w:=w) ⟨b,o,none⟩ vs (by intro j v e;have:=c j v e;unfold Addr.add;split;subst_vars;simpa using this;exact this);simp[loadVar,isAgg,run_underlying y,IA hi,<-q,h,go_sem];unfold loadCells at h;simp[h,go_sem]
theorem AWy{n}{p}(h:S.load n p=some ls):∀x,AS.ow x∉ls:=by
 have e:∀s y x,MR s y≠.ow x:=by intro s y x;cases y<;>simp[MR]
 have hB:∀(b:Nat) (cs:List AS) (o:Nat) x,AS.ow x∉Ss b o cs:=by
  intro b cs;induction cs with
  |nil=>simp[Ss]|cons l cs q=>intro o x c;rw[av]at c;rcases Ae.1 c with c|c;(cases l<;>simp[ALR]at c);exact q _ x c
 have hA:∀(r:CN) (i:Nat) (cs:List T) (j:Nat) x,AS.ow x∉K4 r i j cs:=by
  intro r i cs;induction cs with
  |nil=>simp[K4]|cons l cs q=>intro j x c;rcases Ae.1 c with c|c;(exact e _ _ _ c.symm);exact q _ x c
 intro x c;unfold St.load at h;grind
theorem tO{f}:∀{ls:List AS} {us:List Value},P9 ls=true->(∀(c:Nat) l,ls[c]?=some l->∃u,us[c]?=some u/\Bz F S g w f l u)->us.length=ls.length->∀v∈us,v.oneCell'=true
 | [],us,_,_,j=>by have:us=[]:=List.length_eq_zero_iff.1 j;subst this;simp
 |l::ls,us,q,I,j=>by
  cases us with
  |nil=>simp at j|cons u us=>
   simp[P9,AD]at q;intro v y;rcases Ae.1 y with rfl|y;have ⟨L,B,E⟩:=I 0 l rfl;simp[AN,AE]at B;subst B;have e:=q.1;split at e;exact Sc.one (show Sc _ _ from E) (by simpa using e);have hV:View w _ _ _:=E;cases hV with|sc h=>exact h.elim|sl=>rfl|nl=>rfl
   cases e;exact tO q.2 (λc l' J=>I (c+1) l' (by simpa using J)) (by simpa using j) v y
theorem AWO(h:Inv F S g a w){t n:Nat}{ty:TypeId}{id o:Nat}(e:S.one (.tmp t)=some (.bp id o))(y:S.load n (.bp id o)=some ls)(q:Jn F.P ty (some n)=true) :
 ∃vs:List Value,(WW a.tmps (.cell t ty)).run F.P w=.ok (.agg vs.toArray) w/\vs.length=n/\ls.length=n/\∀(c:Nat) l,ls[c]?=some l->∃u,vs[c]?=some u/\Bz F S g w (λ_=>False) l u:=by
 have ⟨b,o',vs,L,O,Q,Y,Z⟩:=Qs h (HL (o:=.tmp t) h e (by simp[CH]) (λp I=>by simp[CK]at I)).1 y;have J:a.tmps.getD t undef=.pointer (some ⟨b,o',none⟩):=by simpa[Act.eval] using L
 refine⟨vs,?_,O,Q,Z.2.1⟩;have j:∀{u:Value},(loadVar ty ⟨b,o',none⟩).run F.P w=.ok u w->(WW a.tmps (.cell t ty)).run F.P w=.ok u w:=by intro u E;show (asAddr (a.tmps.getD t undef) >>= λad=>loadVar ty ad).run F.P w=_;rw[J,Ao];exact E
 unfold Jn at q;split at q;rename_i dsc i E hi;simp[AD,beq_iff_eq]at q;have ⟨B,hk⟩:=q;obtain⟨fs,rfl⟩:∃fs,dsc=.struct fs:=by cases dsc<;>simp[SE]at B;exact⟨_,rfl⟩
 exact j (fJ E hi (by omega) Y);cases q
theorem MZ(h:Inv F S g a w):∀(rs:List IF) (rvs:List ResultVar) (ns:List (Option Nat)) (ls:List AS),G8 F.P rvs rs=true->Mo rs S=some (ns,ls) ->
 ∃us:List Value,(rvs.mapM (WW a.tmps)).run F.P w=.ok (IP ns us) w/\us.length=ls.length/\us.length=VY ns/\(∀x,AS.ow x∉ls) /\
  ∀(c:Nat) l,ls[c]?=some l->∃u,us[c]?=some u/\Bz F S g w (λ_=>False) l u
 | [],rvs,ns,ls,j,q=>by
  simp[Mo,AE,BC]at q;obtain⟨rfl,rfl⟩:=q;cases rvs with
  |nil=>exact⟨[],by simp[IP,go_sem],rfl,rfl,by simp,by simp⟩|cons rv _=>cases rv<;>simp[G8]at j
 |.bx _::_,_,_,_,_,q=>by simp[Mo]at q|.vw _ _::_,_,_,_,_,q=>by simp[Mo]at q|.un _ _::_,_,_,_,_,q=>by simp[Mo]at q|.tmp t::rs,rvs,ns,ls,j,q=>by
  cases rvs with
  |nil=>simp[G8]at j|cons rv rvs=>
   cases rv with
   |cell=>simp[G8]at j|tmp O=>
    simp[G8,AD,beq_iff_eq]at j;obtain⟨rfl,j⟩:=j;simp[Mo]at q;split at q;rename_i e Z ls' he Y;split at q;rename_i B;simp[AE,BC]at q;obtain⟨rfl,rfl⟩:=q;have ⟨us,h1,h2,h3,h4,h5⟩:=MZ h rs rvs Z ls' j Y;have ⟨vs,k1,y,k3,k4⟩:=QE (o:=.tmp O) h he (by simp[CH]) (λp hp=>by simp[CK]at hp);have hv:a.tmps.getD O undef=mkV e.sh vs:=by simpa[Act.eval] using k1
    have E:∀(c:Nat) l,(e.cs++ls')[c]?=some l->∃u,(vs++us)[c]?=some u/\Bz F S g w (λ_=>False) l u:=by intro c l I;rcases AV c e.cs.length with Q|Q;rw[BS Q]at I;rw[BS (by omega)];exact k4 c l I;rw[BN Q]at I;rw[BN (by omega),y];exact h5 _ l I
    refine⟨vs++us,?_,by simp[h2,y],?_,λx hx=>(Br.1 hx).elim (k3 x) (h4 x),E⟩;have:(WW a.tmps (.tmp O)).run F.P w=.ok (mkV e.sh vs) w:=by simp[WW,hv,go_sem]
    have ⟨sh,cs⟩:=e;cases sh with
    |one=>
     simp[Hz,beq_iff_eq]at B;simp at y;match vs,y.trans B with
     | [v],_=>exact Sb this h1
    |agg=>simp at y;have h0:=Sb this h1;simpa[IP,<-y,Hl,Ej,mkV] using h0
    |_=>simp[Hz]at B
    have ⟨sh,cs⟩:=e;cases sh with|one=>simp[Hz,beq_iff_eq]at B;simp at y;simp[VY,Dx,y,B,h3]|agg=>simp at y;simp[VY,Dx,y,h3]|_=>simp[Hz]at B
    cases q;cases q
 |.cell t n::rs,rvs,ns,ls,j,q=>by
  cases rvs with
  |nil=>simp[G8]at j|cons rv rvs=>
   cases rv with
   |tmp=>simp[G8]at j|cell O ty=>
    simp[G8,AD,beq_iff_eq]at j;obtain⟨⟨rfl,L⟩,j⟩:=j;simp[Mo]at q;split at q;rename_i id o hone;split at q;rename_i ls1 Z ls' hld Y;simp[AE,BC]at q;obtain⟨rfl,rfl⟩:=q;have ⟨us,h1,h2,h3,h4,h5⟩:=MZ h rs rvs Z ls' j Y;have ⟨b,o',vs,k1,y,k3,k4,k5⟩:=Qs h (HL (o:=.tmp O) h hone (by simp[CH]) (λp hp=>by simp[CK]at hp)).1 hld;have hv:a.tmps.getD O undef=.pointer (some ⟨b,o',none⟩):=by simpa[Act.eval] using k1
    have E:∀(c:Nat) l,(ls1++ls')[c]?=some l->∃u,(vs++us)[c]?=some u/\Bz F S g w (λ_=>False) l u:=by intro c l I;rcases AV c ls1.length with Q|Q;rw[BS Q]at I;rw[BS (by omega)];exact k5.2.1 c l I;rw[BN Q]at I;rw[BN (by omega),y,<-k3];exact h5 _ l I
    refine⟨vs++us,?_,by simp[h2,y,k3],by simp[VY,h3,y],λx hx=>(Br.1 hx).elim (AWy hld x) (h4 x),E⟩;have J:∀{u:Value},(loadVar ty ⟨b,o',none⟩).run F.P w=.ok u w->(WW a.tmps (.cell O ty)).run F.P w=.ok u w:=by intro u hu;show (asAddr (a.tmps.getD O undef) >>= λad=>loadVar ty ad).run F.P w=_;rw[hv,Ao];exact hu
    unfold Jn at L;split at L;next dsc i hu hi=>cases n with
    |some k=>
     simp[AD,beq_iff_eq]at L;have ⟨hst,hk⟩:=L;obtain⟨fs,rfl⟩:∃fs,dsc=.struct fs:=by cases dsc<;>simp[SE]at hst;exact⟨_,rfl⟩
     have h0:=Sb (J (fJ hu hi (by simp[Dx]at y;omega) k4)) h1;simp[Dx]at y;simpa[IP,<-y,Hl,Ej] using h0
    |none=>
     simp[AD,beq_iff_eq,Bool.not_eq_true']at L;match vs,y with
     | [u],_=>refine Sb (J (AEE hu ?_ ?_ (by simpa using k4 0 u rfl))) h1;rintro fs rfl;simp[RO]at L;rintro n e rfl;simp[RO]at L
    cases L;cases q;cases q
end
section
variable{A:Nat->Nat->List Md->Prop}{P:Program}{w w':World}{R:Nat->Blk}{G:Nat->Nat->Blk}{U:Nat->List Value}{ms:List Md}{vs:List V}{us:List Value}
theorem given(h:OH A P w R G U ms vs us){i c b}(q:G i c b):∃md,ms[i]?=some md/\(md.Fl=true\/md=.b/\us[i]?=some (.pointer (some ⟨b,0,none⟩))):=by
 have hi:=h.out i c b q;have y:ms[i]?=some ms[i]:=by simp[hi]
 have E:vs[i]?=some (vs[i]'(by rw[h.ADU];exact hi)):=by simp[h.ADU,hi]
 have B:us[i]?=some (us[i]'(by rw[h.nJ];exact hi)):=by simp[h.nJ,hi]
 refine⟨_,y,?_⟩;have e:=h.arg i _ _ _ y E B;unfold dZ at e;split at e;grind;exact absurd q (e.2 c b);exact absurd q (e.2 c b);grind;rename_i j _;rw[j];exact .inl rfl;rename_i j _;rw[j];exact .inl rfl;exact e.elim
theorem ADm{S}:∀(ms:List Md) (i:Nat) (outs:List (List T)),F8 i ms S=some outs->∀j,ms[j]?=some .b->i+j∈S.pin/\(get S.bx (i+j)).isSome
 | [],_,_,_,j,e=>by simp at e|md::ms,i,outs,h,j,e=>by
  have hrest:∃os,F8 (i+1) ms S=some os:=by cases md<;>simp[F8]at h;exact⟨_,h⟩;exact⟨_,h⟩;split at h;rename_i os _ c;exact⟨_,c⟩;cases h;exact⟨_,h⟩;split at h;rename_i os _ c;exact⟨_,c⟩;cases h
  cases j with
  |zero=>grind[List.getElem?_cons_zero,Option.some.injEq,F8]
  |succ j=>have ⟨os,c⟩:=hrest;have:=ADm ms (i+1) os c j (by simpa using e);rwa[show i+1+j=i+(j+1) by omega]at this
theorem AW7{l}{x}(h:owT l=some x):l=.ow x\/(l=.t x/\T1 x=false):=by
 cases l with
 |ow y=>simp[owT,AE]at h;subst h;exact .inl rfl|t y=>grind[owT]
 |_=>simp[owT]at h
theorem ADn:∀{ls:List AS} {xs:List T},fh ls=some xs->xs.length=ls.length/\∀(c:Nat) x,xs[c]?=some x->∃l,ls[c]?=some l/\owT l=some x
 | [],xs,h=>by simp[fh,AE]at h;subst h;simp|l::ls,xs,h=>by simp[fh]at h;split at h;rename_i x j q e;cases h;have ⟨y,B⟩:=ADn e;grind[List.getElem?_cons_zero,Option.some.injEq];cases h
theorem AZI{sh sh'}{xs ys}(h:mkV sh xs=mkV sh' ys)(e:Hz sh xs.length=true)(c:Hz sh' ys.length=true)(j:∀v∈xs,v.oneCell'=true)(q:∀v∈ys,v.oneCell'=true):xs=ys:=by
 cases sh with
 |one=>
  simp[Hz,beq_iff_eq]at e;match xs,e with
  | [x],_=>
   cases sh' with
   |one=>
    simp[Hz,beq_iff_eq]at c;match ys,c with
    | [y],_=>simp[mkV,I4]at h;rw[h]
   |agg=>have:=j x (by simp);simp[mkV,I4]at h;subst h;simp[Value.oneCell']at this
   |_=>simp[Hz]at c
 |agg=>
  cases sh' with
  |one=>
   simp[Hz,beq_iff_eq]at c;match ys,c with
   | [y],_=>have:=q y (by simp);simp[mkV,I4]at h;rw[<-h]at this;simp[Value.oneCell']at this
  |agg=>simp only[mkV,Value.agg.injEq]at h;simpa using congrArg Array.toList h
  |_=>simp[Hz]at c
 |_=>simp[Hz]at e
section close
variable(h:OH A P w R G U ms vs us){N:Nat}{Z0 Zx:Blk}{w1:World}{a:Act}{S:St}{g:Gh}
def dOf(ms:List Md)(S:St)(g:Gh)(D0:Nat->Blk)(p c b:Nat):Prop:=
 match p with
 |0=>D0 c b|i+1=>ms[i]?=some .m/\CP S (.tmp i c)/\g.fp (.tmp i c) b
theorem V9{D0:Nat->Blk}(Y:∀(j:Nat),ms[j]?=some .m->∃sh cs,vs[j]?=some (.m sh cs)/\Hz sh cs.length=true)(hI:Inv ((K2 h N).ext Z0 w1) S g a w'):∀(B:List Md) (I:List V) (i:Nat) (outs:List (List T)),
 (∀(j:Nat) md,B[j]?=some md->ms[i+j]?=some md)->(∀(j:Nat) V,I[j]?=some V->vs[i+j]?=some V)->F8 i B S=some outs->Hj B I outs=true ->
 Q5 w' R (λb=>Z0 b\/Zx b) (dOf ms S g D0) U us i B outs
 | [],I,i,outs,_,_,J,_=>by simp only[F8,AE]at J;exact J.symm|md::B,I,i,outs,hms,hvs,J,Q=>by
  have Z:ms[i]?=some md:=hms 0 md rfl;have hi:i<us.length:=by rw[h.nJ];exact(AO.1 Z).1
  have hu:us[i]?=some us[i]:=by simp[hi]
  have L:∀(j:Nat) md,B[j]?=some md->ms[i+1+j]?=some md:=λj md hj=>by rw[show i+1+j=i+(j+1) by omega];exact hms (j+1) md (by simpa using hj)
  have O:∀{V0:V} {q:List V},I=V0::q->∀(j:Nat) V,q[j]?=some V->vs[i+1+j]?=some V:=λhe j V hj=>by subst he;rw[show i+1+j=i+(j+1) by omega];exact hvs (j+1) V (by simpa using hj)
  cases md with
  |v=>cases I with|nil=>simp[Hj]at Q|cons V0 q=>exact V9 Y hI B q (i+1) outs L (O rfl) (by simpa[F8] using J) (by simpa[Hj] using Q)
  |p=>cases I with|nil=>simp[Hj]at Q|cons V0 q=>exact V9 Y hI B q (i+1) outs L (O rfl) (by simpa[F8] using J) (by simpa[Hj] using Q)
  |o=>cases I with|nil=>simp[Hj]at Q|cons V0 q=>exact V9 Y hI B q (i+1) outs L (O rfl) (by simpa[F8] using J) (by simpa[Hj] using Q)
  |b=>
   simp[F8]at J;split at J;rename_i ls os hls hos;split at J;next hp=>rw[AM]at J;obtain⟨o,hb,rfl⟩:=J;cases I with
   |nil=>simp[Hj]at Q|cons V0 q=>
    cases V0 with
    |b cs=>
     simp[Hj,AD,beq_iff_eq]at Q;have ⟨hlen,Q⟩:=Q;have hV:vs[i]?=some (.b cs):=hvs 0 _ rfl;have ⟨blk,E,k1,k2,k3,k4⟩:=h.arg i _ _ _ Z hV hu;have ⟨q1,q2,q3⟩:=NA hb;have ⟨⟨E',hE'⟩,hbl⟩:=hI.bxs i ls hls;have hβ:g.β i=blk:=by
      have h1:=(hI.pin i hp).2 (by simp[hls]);have h2:((K2 h N).ext Z0 w1).β0 i=blk:=by show (match us[i]? with|some (.pointer (some a))=>a.block|_=>0)=blk;rw[hu,k1]
      rw[h1,h2]
     rw[hβ]at hE';refine⟨o,os,rfl,⟨blk,g.bv i,E',by rw[hu,k1],hE',by rw[hbl,<-q1,hlen,k3.1],⟨by rw[hbl,q1],?_⟩⟩,V9 Y hI B q (i+1) os L (O rfl) hos Q⟩;intro c x hx;have ⟨l,hl1,hl2⟩:=q2 c x hx;have ⟨v,hv,hok⟩:=hI.C6 (.cell i c) l (by simp[St.at,hls,hl1]);refine⟨v,hv,?_⟩;exact(Vi hl2 hok).up λb hb=>hb.imp id .inl
    |_=>simp[Hj]at Q
   cases J;cases J
  |m=>
   simp[F8]at J;split at J;rename_i e os he hos;split at J;next hp=>have ⟨hp,hsh⟩:=hp;rw[AM]at J;obtain⟨o,hb,rfl⟩:=J;cases I with
   |nil=>simp[Hj]at Q|cons V0 q=>
    have ⟨q1,q2⟩:=ADn hb;have ⟨sh,cs,hV,hsh0⟩:=Y i Z;have ⟨k1,k2,k3⟩:=h.arg i _ _ _ Z hV hu;have ⟨t1,t2,t3⟩:=hI.tms i e he;have hcell:∀(c:Nat) x,o[c]?=some x->∃z,(g.tv i)[c]?=some z/\Own w' x z (dOf ms S g D0 (i+1) c):=by
     intro c x hx;have ⟨l,hl1,hl2⟩:=q2 c x hx;have hat:S.at (.tmp i c)=some l:=by simp[St.at,he,hl1]
     have ⟨z,hz,hok⟩:=hI.C6 (.tmp i c) l hat;refine⟨z,hz,?_⟩;rcases AW7 hl2 with rfl|⟨rfl,htop⟩;have hO:Own w' x z (g.fp (.tmp i c)):=hok;exact hO.congr λb=>⟨λhb=>hb.2.2,λhb=>⟨Z,⟨x,hat⟩,hb⟩⟩
     have hS:Sc x z:=hok;refine .sc hS (hS.one htop) ?_;rintro b ⟨_,⟨y,hy⟩,_⟩;rw[hat]at hy;cases hy
    have hUeq:g.tv i=U i:=by
     refine AZI (sh:=e.sh) (sh':=sh) ?_ (by rw[t3];exact hsh) (by rw[k2.1];exact hsh0) ?_ ?_;have h1:=(hI.pin i hp).1;have h2:((K2 h N).ext Z0 w1).pv i=us[i]:=by simp[Fix.ext,K2,hi]
     rw[<-t2,h1,h2,k1];intro v hv;have ⟨c,hc⟩:=EW.1 hv;have hlt:c<o.length:=by rw[q1,<-t3];exact(AO.1 hc).1
     have ⟨z,hz,hO⟩:=hcell c o[c] (by simp[hlt]);rw[hc]at hz;cases hz;exact hO.one;intro v hv;have ⟨c,hc⟩:=EW.1 hv;have hlt:c<cs.length:=by rw[<-k2.1];exact(AO.1 hc).1
     have ⟨z,hz,hO⟩:=k2.2 c cs[c] (by simp[hlt]);rw[hc]at hz;cases hz;exact hO.one
    refine⟨o,os,rfl,⟨by rw[<-hUeq,t3,q1],?_⟩,V9 Y hI B q (i+1) os L (O rfl) hos (by simpa[Hj] using Q)⟩;rw[<-hUeq];exact hcell
   cases J;cases J
theorem Sf{b:Nat}{outs:List (List T)}(hI:Inv ((K2 h N).ext Z0 w1) S g a w')(Z:F8 0 ms S=some outs)(Q:¬(K2 h N).K b)(O:∀j:Nat,(get S.bx j).isSome->j∈S.pin->b≠g.β j):qJ w ms G b:=by
 classical
 rcases AV b w.heap.size with y|q;have:∃i c,G i c b:=by refine Classical.byContradiction λY=>Q ⟨y,λi c e=>Y ⟨i,c,e⟩⟩
 have ⟨i,c,e⟩:=this;obtain⟨md,I,ht|⟨rfl,hu⟩⟩:=given h e;exact .inr ⟨i,c,md,I,ht,e⟩;have ⟨B,E⟩:=ADm ms 0 outs Z i I;rw[A1]at B E;have J:=(hI.pin i B).2 E;have L:((K2 h N).ext Z0 w1).β0 i=b:=by show (match us[i]? with|some (.pointer (some a))=>a.block|_=>0)=b;rw[hu]
 exact absurd (L.symm.trans J.symm) (O i E B);exact .inl q
theorem Ph{D0:Nat->Blk}{outs:List (List T)}{sh:Sh}{cs:List T}{v:Value}(hm0:∀(j:Nat),ms[j]?=some .m->∃sh cs,vs[j]?=some (.m sh cs)/\Hz sh cs.length=true)(hI:Inv ((K2 h N).ext Z0 w1) S g a w')
 (hw1:∀b,(K2 h N).K b->w1.heap[b]?=w.heap[b]?) (hw2:Still w w1) (hZ:∀b,Z0 b->¬(K2 h N).K b) (Q:F8 0 ms S=some outs) (hl:Hj ms vs outs=true)
 (hx:∀b,Zx b->EV ((K2 h N).ext Z0 w1) S g b/\b<w'.heap.size) (hD0:∀c b,D0 c b->EV ((K2 h N).ext Z0 w1) S g b/\¬Zx b) (hD1:∀c d b,D0 c b->c≠d->¬D0 d b)
 (Y:AXp (qJ w ms G) w' R (λb=>Z0 b\/Zx b) (dOf ms S g D0) sh cs v):pW w w' R G U ms us sh cs outs v (λb=>Z0 b\/Zx b) (dOf ms S g D0) where
 still:=hw2.trans hI.still
 frame b y hg:=(hI.FZ b (.inl ⟨y,hg⟩)).trans (hw1 b ⟨y,hg⟩)
 z b y:=by rcases y with y|y;have hK:((K2 h N).ext Z0 w1).K b:=.inr y;exact⟨Sf h hI Q (hZ b y) λj E _ J=>hI.bxR j E (J▸hK),BZ (hI.rlt b hK) hI.size⟩;have ⟨hL,hlt⟩:=hx b y;exact⟨Sf h hI Q (λL=>hL.1 (.inl L)) λj E _=>hL.2.2 j E,hlt⟩
 res:=Y
 outs:=V9 h hm0 hI ms vs 0 outs (λj md Z=>by rw[A1];exact Z) (λj md Z=>by rw[A1];exact Z) Q hl
 dd p c q d b e O I:=by
  cases p with
  |zero=>
   cases q with
   |zero=>exact hD1 c d b e (O.elim (λh=>absurd rfl h) id) I|succ q=>exact(hD0 c b e).1.2.1 _ I.2.1 I.2.2
  |succ p=>
   cases q with
   |zero=>exact(hD0 d b I).1.2.1 _ e.2.1 e.2.2|succ q=>refine hI.dis _ _ e.2.1 I.2.1 ?_ b e.2.2 I.2.2;intro J;cases J;exact O.elim (λh=>h rfl) (λh=>h rfl)
 dz p c b e B:=by
  cases p with
  |zero=>have ⟨hL,hn⟩:=hD0 c b e;exact B.elim (λB=>hL.1 (.inr B)) hn
  |succ p=>rcases B with B|B;exact hI.Hw _ e.2.1 b e.2.2 (.inr B);exact(hx b B).1.2.1 _ e.2.1 e.2.2
 df p c b e:=by
  cases p with
  |zero=>have ⟨hL,_⟩:=hD0 c b e;exact Sf h hI Q (λL=>hL.1 (.inl L)) λj E _=>hL.2.2 j E
  |succ p=>exact Sf h hI Q (λL=>hI.Hw _ e.2.1 b e.2.2 (.inl L)) λj E _ J=>hI.F3 _ j e.2.1 E (J▸e.2.2)
theorem AFI{fn:Func}{rs:List IF}{outs:List (List T)}{sh:Sh}{cs:List T}(hm0:∀(j:Nat),ms[j]?=some .m->∃sh cs,vs[j]?=some (.m sh cs)/\Hz sh cs.length=true)(hI:Inv ((K2 h N).ext Z0 w1) S g a w')
 (hw1:∀b,(K2 h N).K b->w1.heap[b]?=w.heap[b]?) (hw2:Still w w1) (hZ:∀b,Z0 b->¬(K2 h N).K b) (hl:Hj ms vs outs=true)
 (hr:G8 P fn.results.toList rs=true) (hf:fin ms rs S sh cs outs):∃v Z D,(results fn a.tmps).run P w'=.ok v w'/\pW w w' R G U ms us sh cs outs v Z D:=by
 have ⟨S2,B,ho⟩:=hf;have htmp:∀{t:Nat} {l:AS},S.one (.tmp t)=some l->Bz ((K2 h N).ext Z0 w1) S g w' (λ_=>False) l (a.tmps.getD t undef):=by intro t l J;have:=(HL (o:=.tmp t) hI J (by simp[CH]) (λp hp=>by simp[CK]at hp)).1;simpa[Act.eval] using this
 have hrt:∀{t:Nat} {x:IF},(G8 P fn.results.toList [x]=true)->(x=.bx t\/∃k,x=.vw t k)->(results fn a.tmps).run P w'=.ok (a.tmps.getD t undef) w':=by
  intro t x hr Q;have:fn.results=#[.tmp t]:=by
   have hto:fn.results=fn.results.toList.toArray:=by simp
   rw[hto];generalize fn.results.toList=rvs at hr;cases rvs with
   |nil=>rcases Q with rfl|⟨k,rfl⟩<;>simp[G8]at hr
   |cons rv rvs=>
    cases rv with
    |cell=>rcases Q with rfl|⟨k,rfl⟩<;>simp[G8]at hr
    |tmp t'=>
     have:t'=t/\rvs=[]:=by rcases Q with rfl|⟨k,rfl⟩<;>simp only[G8,AD,beq_iff_eq]at hr<;>refine⟨hr.1,?_⟩<;>(cases rvs with|nil=>rfl|cons rv _=>cases rv<;>simp[G8]at hr)
     obtain⟨rfl,rfl⟩:=this;rfl
  exact results_tmp this _ _ _
 unfold dN at B;split at B
 ·
  rename_i t;split at B;rename_i id J;split at B;rename_i ls hls;split at B;cases B;rename_i hpin;split at B;rename_i cs' I;cases B;have hv:a.tmps.getD t undef=.pointer (some ⟨g.β id,0,none⟩):=htmp J;have ⟨⟨E,hE⟩,hbl⟩:=hI.bxs id ls hls;have ⟨q1,q2,q3⟩:=NA I;have O:(get S.bx id).isSome:=by simp[hls]
  refine⟨_,_,_,hrt hr (.inl rfl),Ph (Zx:=λ_=>False) (D0:=λ_ _=>False) h hm0 hI hw1 hw2 hZ ho hl (λ_ I=>I.elim) (λ_ _ I=>I.elim) (λ_ _ _ I=>I.elim) ?_⟩;refine⟨g.β id,g.bv id,E,hv,hE,⟨by rw[hbl,q1],?_⟩,?_,?_,?_⟩;intro c x Q;have ⟨l,hl1,hl2⟩:=q2 c x Q;have ⟨v,hv,L⟩:=hI.C6 (.cell id c) l (by simp[St.at,hls,hl1]);exact⟨v,hv,(Vi hl2 L).up λb I=>I.imp (λh=>h) .inl⟩;refine Sf h hI ho (λhk=>hI.bxR id O (.inl hk)) λj hs hp he=>?_;have:=hI.G1 id j O hs he;subst this;exact hpin hp;rintro(hz|hz);exact hI.bxR id O (.inr hz);exact hz;intro p c hd;cases p with|zero=>exact hd|succ p=>exact hI.F3 _ id hd.2.1 O hd.2.2
  cases B;cases B;cases B
 ·
  rename_i t k;split at B;rename_i k' e xs J;split at B;rename_i hk;cases B;subst hk;have hV:View w' (((K2 h N).ext Z0 w1).R k') (.sl e xs) (a.tmps.getD t undef):=htmp J;refine⟨_,_,_,hrt hr (.inr ⟨_,rfl⟩),Ph (Zx:=λ_=>False) (D0:=λ_ _=>False) h hm0 hI hw1 hw2 hZ ho hl (λ_ I=>I.elim) (λ_ _ I=>I.elim) (λ_ _ _ I=>I.elim) ⟨_,rfl,hV.up λb I=>I.imp (λh=>h) .inl⟩⟩;cases B;rename_i J;cases B;have hV:Sc .nil (a.tmps.getD t undef):=htmp J;exact⟨_,_,_,hrt hr (.inr ⟨_,rfl⟩),Ph (Zx:=λ_=>False) (D0:=λ_ _=>False) h hm0 hI hw1 hw2 hZ ho hl (λ_ I=>I.elim) (λ_ _ I=>I.elim) (λ_ _ _ I=>I.elim) ⟨_,rfl,.sc hV⟩⟩;rename_i r sub J;split at B;rename_i x Q;cases B;have hT:=uJ hI Q;have hV:=uP hI (htmp J) (x:=qD sub x) (by simp[St.IT,Q]) (λy=>by simp);have ⟨v0,_,hO⟩:=hI.C6 r _ Q;have hO:Own w' x v0 (g.fp r):=hO;refine⟨_,_,_,hrt hr (.inr ⟨_,rfl⟩),Ph (Zx:=g.fp r) (D0:=λ_ _=>False) h hm0 hT.inv hw1 hw2 hZ ho hl ?_ (λ_ _ I=>I.elim) (λ_ _ _ I=>I.elim) ⟨_,rfl,hV.up λb I=>.inr (.inr I.2)⟩⟩;intro b I;refine⟨⟨hI.Hw r ⟨x,Q⟩ b I,λr' hr' hf=>?_,λid hid he=>hI.F3 r id ⟨x,Q⟩ (hT.bx id hid) (he▸I)⟩,hO.lt b I⟩;have ⟨hne,hal⟩:=JY Q hr';exact hI.dis r r' ⟨x,Q⟩ hal (Ne.symm hne) b I hf;cases B;cases B
 ·
  rename_i t r;split at B;rename_i id J;split at B;rename_i ls n ls' hls hL;split at B;cases B;rename_i hpin;split at B;rename_i cs1 S2' cs2 I how;cases B;have ⟨rv,hres,L⟩:∃rv,fn.results.toList=[.tmp t,rv]/\G8 P [rv] [r]=true:=by
   generalize fn.results.toList=l at hr;match l,hr with
   | [],q=>simp[G8]at q|.cell _ _::_,q=>simp[G8]at q|.tmp t'::rvs,q=>
    have q1:(t'==t&&G8 P rvs [r])=true:=q;simp only[AD,beq_iff_eq]at q1;obtain⟨rfl,q2⟩:=q1;match rvs,q2 with
    | [],q2=>cases r<;>simp[G8]at q2
    | [rv],q2=>exact⟨rv,rfl,q2⟩|rv::rv'::rvs,q2=>cases rv<;>cases r<;>simp[G8]at q2
  have ⟨ru,k1,k2,k3,k4,k5⟩:=MZ hI [r] [rv] [some n] ls' L hL;have hv:a.tmps.getD t undef=.pointer (some ⟨g.β id,0,none⟩):=htmp J;have hrun:(fn.results.toList.mapM (WW a.tmps)).run P w'=.ok (IP [none,some n] (.pointer (some ⟨g.β id,0,none⟩)::ru)) w':=by
   rw[hres];have h1:(WW a.tmps (.tmp t)).run P w'=.ok (.pointer (some ⟨g.β id,0,none⟩)) w':=by simp[WW,hv,go_sem]
   exact Sb h1 k1
  have ⟨g2,hT,nf,⟨t1,t2,t3,t4,t5,t6⟩,t7⟩:=WA hI k4 k2 (λc l hl=>by have ⟨u,hu,L⟩:=k5 c l hl;exact⟨u,hu,λ_ _ _=>L,λ_=>L⟩) how;have ⟨⟨E,hE⟩,hbl⟩:=hI.bxs id ls hls;have ⟨q1,q2,q3⟩:=NA I;have O:(get S.bx id).isSome:=by simp[hls]
  have hn:ru.length=n:=by rw[k3];simp[VY,Dx]
  have hc2:cs2.length=n:=by omega
  have htk:(cs1++cs2).take ((cs1++cs2).length-n)=cs1:=by rw[AH,hc2,Cl,Hl]
  have hdr:(cs1++cs2).drop ((cs1++cs2).length-n)=cs2:=by rw[AH,hc2,Cl,Ej]
  refine⟨_,_,_,Tc hrun,Ph (Zx:=λ_=>False) (D0:=λc b=>c<cs2.length/\nf c b) h hm0 hT.inv hw1 hw2 hZ ho hl (λ_ I=>I.elim) ?_ ?_ ?_⟩;rintro c b ⟨Y,I⟩;exact⟨⟨t3 c b Y I,λr hr hf=>t4 c r b Y hr I hf,λid hid he=>t5 c id Y hid (he▸I)⟩,λh=>h⟩;rintro c d b ⟨Y,I⟩ hne ⟨hd,hb'⟩;exact t6 c d b Y hd hne I hb';refine⟨g.β id,g.bv id,E,ru,?_,hE,⟨by rw[htk,hbl,q1],?_⟩,?_,?_,?_,hn,?_⟩;have hlen:(IP [none,some n] (.pointer (some ⟨g.β id,0,none⟩)::ru)).length≠1:=by simp[IP]
  simp[hlen,mkV,IP,<-hn];rw[htk];intro c x Q;have ⟨l,hl1,hl2⟩:=q2 c x Q;have ⟨v,hv,L⟩:=hI.C6 (.cell id c) l (by simp[St.at,hls,hl1]);exact⟨v,hv,(Vi hl2 L).up λb I=>I.imp (λh=>h) .inl⟩;refine Sf h hT.inv ho (λhk=>hI.bxR id O (.inl hk)) λj hs hp he=>?_;rw[hT.β]at he;have:=hI.G1 id j O (hT.bx j hs) he;subst this;rw[hT.pin]at hp;exact hpin hp;rintro(hz|hz);exact hI.bxR id O (.inr hz);exact hz;intro p c hd;cases p with
  |zero=>have ⟨l,r,_,_,hr,hf⟩:=t7 c _ hd.1 hd.2;exact hI.F3 r id hr O hf
  |succ p=>exact hI.F3 _ id (hT.al _ hd.2.1) O (hT.fp _ _ hd.2.2)
  rw[hdr];refine⟨by omega,λc x Q=>?_⟩;have ⟨v,hv,ho⟩:=t2 c x Q;have Y:c<cs2.length:=(AO.1 Q).1;exact⟨v,hv,ho.congr λb=>⟨λI=>I.2,λI=>⟨Y,I⟩⟩⟩;cases B;cases B;cases B
 ·
  rename_i t n r rs;split at B;rename_i id o hone0;split at B;rename_i ls0 hld;split at B;rename_i hn;split at B;rename_i ns ls hL;split at B;rename_i S2' cs' how;cases B;have ⟨ty,rv,rvs,hres,hwid,L⟩:∃ty rv rvs,fn.results.toList=.cell t ty::rv::rvs/\Jn P ty (some n)=true/\G8 P (rv::rvs) (r::rs)=true:=by
   generalize fn.results.toList=l at hr;match l,hr with
   | [],q=>simp[G8]at q|.tmp _::_,q=>simp[G8]at q|.cell t' ty::[],q=>
    have q1:G8 P [] (r::rs)=true:=by simp only[G8,AD]at q;exact q.2
    cases r<;>simp[G8]at q1
   |.cell t' ty::rv::rvs,q=>have q1:(t'==t&&Jn P ty (some n)&&G8 P (rv::rvs) (r::rs))=true:=q;simp only[AD,beq_iff_eq]at q1;exact⟨ty,rv,rvs,by rw[q1.1.1],q1.1.2,q1.2⟩
  have ⟨ru,k1,k2,k3,k4,k5⟩:=MZ hI (r::rs) (rv::rvs) ns ls L hL;have ⟨vs0,j1,j2,j3,j4⟩:=AWO hI hone0 hld hwid;have J:=tO hn j4 (j2.trans j3.symm);have hrun:(fn.results.toList.mapM (WW a.tmps)).run P w'=.ok (IP (some n::ns) (vs0++ru)) w':=by rw[hres];have h0:=Sb (P:=P) (w:=w') (tmps:=a.tmps) j1 k1;simpa only[IP,<-j2,Hl,Ej] using h0
  have ⟨g2,hT,nf,⟨t1,t2,t3,t4,t5,t6⟩,_⟩:=WA hI k4 k2 (λc l hl=>by have ⟨u,hu,L⟩:=k5 c l hl;exact⟨u,hu,λ_ _ _=>L,λ_=>L⟩) how;have hl0:vs0.length=n:=j2;refine⟨_,_,_,Tc hrun,Ph (Zx:=λ_=>False) (D0:=λc b=>n<=c/\c-n<cs'.length/\nf (c-n) b) h hm0 hT.inv hw1 hw2 hZ ho hl (λ_ I=>I.elim) ?_ ?_ ?_⟩;rintro c b ⟨_,Y,I⟩;exact⟨⟨t3 _ b Y I,λr hr hf=>t4 _ r b Y hr I hf,λid hid he=>t5 _ id Y hid (he▸I)⟩,λh=>h⟩;rintro c d b ⟨hc1,Y,I⟩ hne ⟨hd1,hd,hb'⟩;exact t6 _ _ b Y hd (by omega) I hb';refine⟨vs0++ru,?_,?_⟩;have hlen:(IP (some n::ns) (vs0++ru)).length≠1:=by
   have hl:∀(ns:List (Option Nat)) (xs:List Value),(IP ns xs).length=ns.length:=by
    intro ns;induction ns with
    |nil=>intro xs;rfl
    |cons n ns ih=>intro xs;cases n<;>simp[IP,ih]
   have hns:ns≠[]:=by intro h0;subst h0;cases r<;>simp only[Mo]at hL<;>(repeat' split at hL)<;>simp at hL
   rw[hl];match ns,hns with
   |_::_,_=>simp
  simp[hlen,mkV];refine⟨by simp[t1,hl0],λc x Q=>?_⟩;rcases AV c n with Y|Y;rw[BS (by simpa using Y),List.getElem?_replicate]at Q;rw[AY Y]at Q;cases Q;have hc':c<vs0.length:=by omega
  refine⟨vs0[c],by rw[BS hc',AU hc'],?_⟩;exact .sc (J _ (Aw hc')) (J _ (Aw hc')) λb I=>by have:=I.1;omega
  rw[BN (by simpa using Y),List.length_replicate]at Q;have ⟨v,hv,ho⟩:=t2 _ x Q;have hcl:c-n<cs'.length:=(AO.1 Q).1;refine⟨v,by rw[BN (by omega),hl0];exact hv,ho.congr λb=>⟨λI=>I.2.2,λI=>⟨Y,hcl,I⟩⟩⟩;cases B;cases B;cases B;cases B;cases B
 ·
  split at B;rename_i ns ls hL;split at B;rename_i S2' cs' how;cases B;have ⟨ru,k1,k2,k3,k4,k5⟩:=MZ hI rs fn.results.toList ns ls hr hL;have ⟨g2,hT,nf,⟨t1,t2,t3,t4,t5,t6⟩,_⟩:=WA hI k4 k2 (λc l hl=>by have ⟨u,hu,L⟩:=k5 c l hl;exact⟨u,hu,λ_ _ _=>L,λ_=>L⟩) how;refine⟨_,_,_,Tc k1,Ph (Zx:=λ_=>False) (D0:=λc b=>c<cs.length/\nf c b) h hm0 hT.inv hw1 hw2 hZ ho hl (λ_ I=>I.elim) ?_ ?_ ?_⟩;rintro c b ⟨Y,I⟩;exact⟨⟨t3 c b Y I,λr hr hf=>t4 c r b Y hr I hf,λid hid he=>t5 c id Y hid (he▸I)⟩,λh=>h⟩;rintro c d b ⟨Y,I⟩ hne ⟨hd,hb'⟩;exact t6 c d b Y hd hne I hb';have hO:pb w' (dOf ms S2 g2 (λc b=>c<cs.length/\nf c b) 0) cs ru:=by refine⟨t1,λc x Q=>?_⟩;have ⟨v,hv,ho⟩:=t2 c x Q;have Y:c<cs.length:=(AO.1 Q).1;exact⟨v,hv,ho.congr λb=>⟨λI=>I.2,λI=>⟨Y,I⟩⟩⟩
  unfold zg;split;refine⟨ru,?_,hO⟩;simp[IP,mkV];rename_i m;simp only[VY,Dx,Nat.add_zero]at k3;refine⟨ru,?_,hO⟩;simp[IP,mkV,<-k3];rename_i hn1 hn2;refine⟨ru,?_,hO⟩;have hlen:(IP ns ru).length≠1:=by
   have hl:∀(ns:List (Option Nat)) (xs:List Value),(IP ns xs).length=ns.length:=by
    intro ns;induction ns with
    |nil=>intro xs;rfl
    |cons n ns ih=>intro xs;cases n<;>simp[IP,ih]
   rw[hl];match ns,hn1,hn2 with
   | [],_,_=>simp| [none],hn1,_=>exact absurd rfl hn1| [some m],_,hn2=>exact absurd rfl (hn2 m)|_::_::_,_,_=>simp
  simp[hlen,mkV];cases B;cases B
theorem AWJ{Rn:Rel}{A:Nat->Nat->List Md->Prop}{P:Program}(hA:RX A P)(hRn:∀f vs sh cs outs,Rn f vs sh cs outs->Ct A P f vs sh cs outs){f:CQ}{vs:List V}{sh:Sh}{cs:List T}{outs}
(J:aH Rn f vs sh cs outs):Ct A P f vs sh cs outs:=by
 intro n E w R G U us hargs;cases E with
 |OW hp=>exact hA.ct _ _ _ _ _ _ _ hp J w R G U us hargs|mk Y h2 q h4=>
  rename_i fn c;cases f with
  |OW=>simp[bZ]at q|mk ms rs body=>
   simp only[bZ,AD,beq_iff_eq,decide_eq_true_eq]at q;have ⟨⟨⟨q2,q3⟩,q4⟩,_⟩:=q;have ⟨S0,hi,I,hl⟩:=J;have hI:=AcL hargs q2 hi;have B:=(Qr ms 0 vs _ S0 hi).m;refine calls_of_wp Y h2 ?_;have hc:=E2 (F0:=K2 hargs fn.ntmps) hA hRn body c _ S0 _ (AOG us fn.ntmps) w _ .refl hI q4 h4 I;refine wp_mono hc ?_;rintro e O w' ⟨Q,F',S',g',rfl,⟨Z,w1,rfl,l1,l2,l3⟩,j,y⟩;have key:fin ms rs S' sh cs outs->∃v,(results fn O.tmps).run P w'=.ok v w'/\∃L Z D,Ending.returned v=.returned L/\pW w w' R G U ms us sh cs outs L Z D:=by intro hf;have ⟨v,Z',D,hr,hB⟩:=AFI hargs B j l1 l2 l3 hl q3 hf;exact⟨v,hr,v,Z',D,rfl,hB⟩
   cases Q with
   |n=>exact⟨j.defs,key y⟩|r=>exact⟨j.defs,key y⟩|x id=>exact y.elim
theorem AXQ{A:Nat->Nat->List Md->Prop}{P:Program}(hA:RX A P){f:CQ}{vs:List V}{sh:Sh}{cs:List T}{outs}(h:K8 f vs sh cs outs):Ct A P f vs sh cs outs:=
 h (Ct A P) λ_ _ _ _ _ c=>AWJ hA (λ_ _ _ _ _ h=>h) c
end close
end
end Lv
namespace Lv
open Go (IntKind BinOp UnOp)
section mono
variable{R1 R2:Rel}(hR:∀f vs sh cs outs,R1 f vs sh cs outs->R2 f vs sh cs outs)
include hR
theorem ADj{o}{S}{K K'}(h:opK R1 o S K)(hK:∀S,K S->K' S):opK R2 o S K':=by rcases h with ⟨S',c,e⟩|⟨d,f,es,S1,vs,sh,cs,outs,S2,c,e,j,q,y⟩;exact .inl ⟨S',c,hK _ e⟩;exact .inr ⟨d,f,es,S1,vs,sh,cs,outs,S2,c,e,hR _ _ _ _ _ j,q,hK _ y⟩
theorem SP:∀{xs:List (Option (Nat×Bool)×XOp)} {S:St} {K K':St->Prop},dF R1 xs S K->(∀S,K S->K' S)->dF R2 xs S K'
 | [],_,_,_,h,hK=>hK _ h|(_,_)::_,_,_,_,⟨b,q,h⟩,hK=>by refine⟨b,q,?_⟩;rcases h with ⟨c,e⟩|⟨c,S',e,j⟩;exact .inl ⟨c,ADj hR e λS hS=>SP hS hK⟩;exact .inr ⟨c,S',e,SP j hK⟩
theorem NV:∀{r:T4} {S:St} {K K':St->Prop},runK R1 r S K->(∀S,K S->K' S)->runK R2 r S K'
 |.nil,_,_,_,h,hK=>hK _ h|.op _ _ _ _ _,_,_,_,⟨b,y,h⟩,hK=>by
  refine⟨b,y,?_⟩;rcases h with ⟨c,e,j⟩|⟨c,S',j,q⟩;exact .inl ⟨c,e,ADj hR j λS hS=>NV hS hK⟩;exact .inr ⟨c,S',j,NV q hK⟩
 |.dr _ r,_,_,_,h,hK=>NV (r:=r) h hK|.nl _ r,_,_,_,h,hK=>NV (r:=r) h hK|.both _ _,_,_,_,h,hK=>⟨NV h.1 hK,NV h.2 hK⟩
theorem KR:∀{x:PY} {S:St} {Q Q':Ex->St->Prop},wp R1 x S Q->(∀e S,Q e S->Q' e S)->wp R2 x S Q'
 |.skip,_,_,_,h,hQ=>hQ _ _ h|.region _ _,_,_,_,h,hQ=>SP hR h λS ⟨ks,hS⟩=>⟨ks,hQ _ _ hS⟩|.W9 _ _,_,_,_,h,hQ=>NV hR h λS ⟨ks,hS⟩=>⟨ks,hQ _ _ hS⟩|.seq a b,_,_,_,h,hQ=>KR (x:=a) h λe S hS=>by
  cases e with
  |n=>exact KR (x:=b) hS hQ|x=>exact hQ _ _ hS|r=>exact hQ _ _ hS
 |.cond c kt ke t e,_,_,_,⟨b,y,ks,h⟩,hQ=>by
  refine⟨b,y,ks,?_⟩;cases b with
  |true=>exact KR (x:=t) h hQ|false=>exact KR (x:=e) h hQ
 |.block id b,_,_,_,h,hQ=>KR (x:=b) h λe S hS=>by
  cases e with
  |n=>exact hQ _ _ hS|x i=>dsimp at hS ⊢;split at hS<;>simp_all|r=>exact hQ _ _ hS
 |.loop b,S,Q,Q',⟨n,h⟩,hQ=>by
  refine⟨n,?_⟩;induction n generalizing S with
  |zero=>exact h|succ n B=>
   refine KR (x:=b) h λe S hS=>?_;cases e with
   |n=>exact B _ hS|x=>exact hQ _ _ hS|r=>exact hQ _ _ hS
 |.exit _,_,_,_,h,hQ=>hQ _ _ h|.ret,_,_,_,h,hQ=>hQ _ _ h|.scope b,_,_,_,h,hQ=>KR (x:=b) h hQ|.or a b,_,_,_,h,hQ=>h.elim (λh=>.inl (KR (x:=a) h hQ)) λh=>.inr (KR (x:=b) h hQ)|.dead,_,_,_,h,_=>h.elim|.VM _ _ _ _ _ _ _,_,_,_,h,hQ=>SP hR h λS ⟨j,q⟩=>⟨j,SP hR q λS ⟨ks,hS⟩=>⟨ks,hQ _ _ hS⟩⟩
end mono
theorem zX{R1 R2:Rel}(hR:∀f vs sh cs outs,R1 f vs sh cs outs->R2 f vs sh cs outs){f:CQ}{vs:List V}{sh:Sh}{cs:List T}{outs}(h:aH R1 f vs sh cs outs):aH R2 f vs sh cs outs:=by
 cases f with
 |OW=>exact h|mk ms rs body=>obtain⟨S0,c,e,j⟩:=h;exact⟨S0,c,KR hR e λ_ _ h=>h,j⟩
theorem K8.intro{f:CQ}{vs:List V}{sh:Sh}{cs:List T}{outs}(h:aH K8 f vs sh cs outs):K8 f vs sh cs outs:=
 λRn c=>c _ _ _ _ _ (zX (λf vs sh cs outs h=>h Rn c) h)
def W(Rn:Rel)(x:PY)(S:St)(N:St->Prop)(X:Nat->St->Prop)(R:St->Prop):Prop:=
 wp Rn x S (λe S=>match e with|.n=>N S|.x i=>X i S|.r=>R S)
theorem K8.mk{ms:List Md}{rs:List IF}{body:PY}{vs:List V}{S0:St}{sh:Sh}{cs:List T}{outs:List (List T)}(c:initK 0 ms vs ⟨[],[],[]⟩=some S0)
 (j:W K8 body S0 (λS=>fin ms rs S sh cs outs) (λ_ _=>False) (λS=>fin ms rs S sh cs outs)) (q:Hj ms vs outs=true):K8 (.mk ms rs body) vs sh cs outs:=
 intro ⟨S0,c,KR (λ_ _ _ _ _ h=>h) j (λe S h=>by cases e<;>exact h),q⟩
variable{Rn:Rel}
def evs:Nat->List (Option (Nat×Bool)×XOp)->St->Option (St×List (Option (Nat×Bool)×XOp))
 |n+1,(g,o)::r,S=>match wanted S g with
  |some true=>(match ev o S with|some S'=>evs n r S'|none=>none)
  |some false=>(match OC o S with|some S'=>evs n r S'|none=>none)
  |none=>none
 |0,r,S=>some (S,r)|_,[],_=>none
def evr:Nat->T4->St->Option (St×T4)
 |n+1,.op _ g sf o r,S=>match wanted S g with
  |some true=>if LN o S sf=true then (match ev o S with|some S'=>evr n r S'|none=>none) else none
  |some false=>(match OC o S with|some S'=>evr n r S'|none=>none)
  |none=>none
 |n+1,.dr ds r,S=>evr n r (S.JT ds)|n+1,.nl ns r,S=>evr n r (S.TR ns)|0,r,S=>some (S,r)|_,_,_=>none
variable{N R:St->Prop}{X:Nat->St->Prop}
theorem ob{p β:Type}{o}{f:p->Option β}{r}(h:o.bind f=some r):∃v,o=some v/\f v=some r:=by
 cases o with
 |none=>cases h
 |some v=>exact⟨v,rfl,h⟩
theorem AZY{p:Type}{c} [Decidable c]{a:Option p}{r}(h:(if c then a else none)=some r):c/\a=some r:=by grind
def at?{p:Type}(l:List p)(i:Int):Option p:=if 0<=i then l[i.toNat]? else none
theorem RZ{p}{l:List p}{i}{x}(h:at? l i=some x):0<=i/\i<l.length/\i.toNat<l.length/\l[i.toNat]?=some x/\∀h,l[i.toNat]'h=x:=by obtain⟨c,h⟩:=AZY h;grind[List.getElem?_eq_some_iff]
theorem AYf{p β:Type}(e:p->β){l}{i}{x}(h:at? l i=some x):(l.map e)[i.toNat]?=some (e x):=by rw[A0,(RZ h).2.2.2.1];rfl
noncomputable def big:Nat:=Classical.choose (p:=λn=>2 ^ 80<=n) ⟨2 ^ 80,Aj _⟩
theorem Pf:2 ^ 80<=big:=Classical.choose_spec (p:=λn=>2 ^ 80<=n) _
end Lv
namespace Lv
open Go (IntKind BinOp UnOp)
abbrev eI(n:Int):T:=.int .i64 n
abbrev eN(n:Int):List T:=[eI n]
abbrev w64(n:Int):Int:=IntKind.i64.wrap n
def toB(n:Int):UInt8:=UInt8.ofNat (IntKind.u8.wrap n).toNat
theorem fW n :0<=IntKind.u8.wrap n/\IntKind.u8.wrap n<256:=by simp only[IntKind.wrap,IntKind.bits,IntKind.signed];simp;omega
theorem AN5 n :((toB n).toNat:Int)=IntKind.u8.wrap n:=by have:=fW n;simp[toB,UInt8.toNat_ofNat'];omega
abbrev iB(a b:Int):Int:=IntKind.i64.wrap (BitVec.ofInt IntKind.i64.bits a &&& BitVec.ofInt IntKind.i64.bits b).toNat
abbrev orI(a b:Int):Int:=IntKind.i64.wrap (BitVec.ofInt IntKind.i64.bits a |||BitVec.ofInt IntKind.i64.bits b).toNat
abbrev Xs(a b:Int):Int:=IntKind.i64.wrap (BitVec.ofInt IntKind.i64.bits a ^^^ BitVec.ofInt IntKind.i64.bits b).toNat
abbrev px(a b:Int):Int:=IntKind.i64.wrap (a*2 ^ (min b.toNat IntKind.i64.bits))
abbrev EJ(a b:Int):Int:=a.fdiv (2 ^ (min b.toNat IntKind.i64.bits))
abbrev eBr(b:UInt8):List T:=[.int .u8 b.toNat]
theorem AE2 b :byteOf [T.int .u8 b.toNat]=some b:=by simp[byteOf]
theorem AAk s :bytesOf (s.map eBr)=some s:=by
 induction s with
 |nil=>rfl|cons b s c=>simp[List.map_cons,bytesOf,AE2,c]
def okT{p:Type}(_:p):Prop:=True
def okL{p:Type}(ok:p->Prop)(l:List p):Prop:=l.length<9223372036854775808/\∀a∈l,ok a
end Lv
namespace Lv
open Go
section
variable{H:Type}{enc:TypeId×Value->H}{P:Program}{w:World}{base:Nat}{spare:Nat->Bool}{held:Bool}
variable{n:Nat}{p:Type}{t:TypeId}{f:p->List T}{ok:p->Prop}
def Old(w:World):Blk:=λb=>b<w.heap.size
def Reads(enc:TypeId×Value->H)(P:Program)(w:World)(base:Nat)(spare:Nat->Bool)(held:Bool)(t:TypeId){p:Type}(f:p->List T)(ok:p->Prop)(n:Nat):Prop:=
 P.cellsOf t=n/\∀fuel cs x,cs.length=n->DataW.trod enc P w base spare held fuel t cs=some x->∃a,ok a/\(f a).length=n/\LA w (Old w) (f a) cs
theorem Reads.int(q:P.underlying t=some (.int .i64))(j:P.cellsOf t=1):Reads enc P w base spare held t (λn:Int=>[T.int .i64 n]) (λn=>-9223372036854775808<=n/\n<9223372036854775808) 1:=by refine⟨j,λfuel cs x _ h=>?_⟩;obtain⟨n,rfl,_,y⟩:=DataW.trod_int q h;refine⟨n,?_,rfl,rfl,?_⟩;simp[Lit.wf,IntKind.min,IntKind.max,IntKind.signed,IntKind.bits]at y;omega;intro c x e;cases c with|zero=>simp[AN,AE]at e;subst e;exact⟨_,rfl,.sc rfl⟩|succ c=>simp at e
theorem Reads.slice{e:TypeId}(ht:P.underlying t=some (.slice e))(hc:P.cellsOf t=1)(hn:0<n)(h:Reads enc P w base spare held e f ok n) :
 Reads enc P w base spare held t (λl:List p=>[T.sl n (l.map f)]) (λl=>l.length<9223372036854775808/\∀a∈l,ok a) 1:=by
 refine⟨hc,λfuel cs x _ hr=>?_⟩;rcases DataW.trod_slice ht hr with ⟨rfl,_⟩|⟨a,len,cap,elems,rest,m,_,rfl,_,Y,hl,hm,hlen,hel,_⟩;refine⟨[],⟨by simp,by simp⟩,rfl,rfl,?_⟩;intro c x y;cases c with|zero=>simp[List.map_nil,AN,AE]at y;subst y;exact⟨_,rfl,.nl⟩|succ c=>simp at y
 have each:∀i,i<len->∃b,ok b/\(f b).length=n/\∃q,w.cells? base (a.add (i*n)) n=some q/\LA w (Old w) (f b) q:=by intro i hi;have:=hel i hi;rw[AU (by omega),h.1]at this;obtain⟨q,J,L⟩:=Option.bind_eq_some_iff.1 this;obtain⟨_,h3,_⟩:=World.cells?_some J;obtain⟨b,h4,h5,h6⟩:=h.2 _ _ _ h3 L;exact⟨b,h4,h5,q,J,h6⟩
 have hg:∃l:List p,l.length=len/\∀i b,l[i]?=some b->ok b/\(f b).length=n/\∃q,w.cells? base (a.add (i*n)) n=some q/\LA w (Old w) (f b) q:=by
  have key:∀k,k<=len->∃l:List p,l.length=k/\∀i b,l[i]?=some b->ok b/\(f b).length=n/\∃q,w.cells? base (a.add (i*n)) n=some q/\LA w (Old w) (f b) q:=by
   intro k;induction k with
   |zero=>intro _;exact⟨[],rfl,by simp⟩
   |succ k ih=>
    intro hk;obtain⟨l,J,L⟩:=ih (by omega);obtain⟨b,Y⟩:=each k (by omega);refine⟨l++[b],by simp[J],λi b' B=>?_⟩;rcases AV i l.length with hi|hi;rw[BS hi]at B;exact L i b' B;rw[BN hi]at B;have:i=k:=by have:=(AO.1 B).1;simp at this;omega
    subst this;rw[<-J,Nat.sub_self]at B;simp[AN,AE]at B;subst B;exact Y
  exact key len (Aj _)
 obtain⟨l,J,L⟩:=hg;have hcell:∀i j x,at2 (l.map f) i j=some x->∃z,w.cell? ⟨a.block,a.off+i*n+j,none⟩=some z/\View w (Old w) x z:=by
  intro i j x y;rw[at2,A0]at y;cases O:l[i]? with
  |none=>rw[O]at y;cases y
  |some b=>
   rw[O]at y;simp[Option.map_some]at y;obtain⟨q1,q2,q,q3,q4,q5⟩:=L i b O;obtain⟨z,Z,hV⟩:=q5 j x y;obtain⟨_,r1,r2⟩:=World.cells?_some q3;have hj:j<n:=by rw[<-q2];exact(AO.1 y).1
   have:=r2 j hj;rw[Z]at this;refine⟨z,?_,hV⟩;have hsp:∀ad:Addr,w.cell? ad=some z->ad.spot=none/\w.cell? ⟨ad.block,ad.off,none⟩=some z:=by intro ad E;unfold World.cell? at E;split at E;rename_i h;split at E;cases E;rename_i hs;refine⟨by simpa using hs,?_⟩;simp[World.cell?,h];simpa using E;cases E
   obtain⟨_,h5⟩:=hsp _ this;rw[<-h5];congr 1;unfold Addr.add;split<;>split<;>simp_all<;>omega
 refine⟨l,⟨by rw[J];unfold maxLen at hm;omega,λb Y=>?_⟩,rfl,rfl,?_⟩;obtain⟨i,hi⟩:=EW.1 Y;exact(L i b hi).1;intro c x y;cases c with
 |succ c=>simp at y|zero=>
  simp[AN,AE]at y;subst y;refine⟨_,rfl,?_⟩;have hfirst:l≠[]->a.spot=none/\a.block<w.heap.size:=by
   intro Q;obtain⟨b,l',rfl⟩:=List.exists_cons_of_ne_nil Q;obtain⟨q1,q2,q,q3,q4,q5⟩:=L 0 b rfl;obtain⟨_,r1,r2⟩:=World.cells?_some q3;have I:=r2 0 hn;rw[Nat.zero_mul]at I;have ha:(a.add 0).add 0=a:=by simp[Addr.add]
   rw[ha]at I;have hlt:0<q.length:=by omega
   rw[AU hlt]at I;unfold World.cell? at I;split at I;rename_i hh;split at I;cases I;rename_i hs;exact⟨by simpa using hs,(BJ.1 hh).1⟩;cases I
  refine .sl (λi j=>(w.cell? ⟨a.block,a.off+i*n+j,none⟩).getD undef) (by simp[J]) hl ?_ (λQ=>hfirst (by rintro rfl;exact Q rfl)) ?_ ?_;intro row hr;obtain⟨b,Y,rfl⟩:=List.mem_map.1 hr;obtain⟨i,hi⟩:=EW.1 Y;exact(L i b hi).2.1;intro i j x y;obtain⟨z,Z,_⟩:=hcell i j x y;simp[Z];intro i j x y;obtain⟨z,Z,hV⟩:=hcell i j x y;simpa[Z] using hV
theorem Reads.map{β:Type}(h:Reads enc P w base spare held t f ok n){g:β->List T}{c:β->Prop}(b:p->β)(E:∀a,f a=g (b a))(I:∀a,ok a->c (b a)) :
 Reads enc P w base spare held t g c n:=by refine⟨h.1,λfuel cs x e j=>?_⟩;obtain⟨a,q,y,B⟩:=h.2 fuel cs x e j;grind
theorem LA.append{B:Blk}{xs ys:List T}{us:List Value}{k:Nat}(y:xs.length=k)(j:LA w B xs (us.take k))(q:LA w B ys (us.drop k)):LA w B (xs++ys) us:=by
 obtain⟨p1,p2⟩:=j;obtain⟨q1,I⟩:=q;have e:k<=us.length:=by rw[List.length_take]at p1;omega
 refine⟨by rw[List.length_drop]at q1;simp;omega,λc x E=>?_⟩;grind[Nat.lt_or_ge,List.getElem?_append_left,List.getElem?_append_right]
def au(enc:TypeId×Value->H)(P:Program)(w:World)(base:Nat)(spare:Nat->Bool)(held:Bool)(fs:List Field)(off:Nat){p:Type}(f:p->List T)(ok:p->Prop)(n:Nat):Prop:=
 ∀(fuel:Nat) (cs:List Value),cs.length=off+n->(∀fld∈fs,∃x,DataW.trod enc P w base spare held fuel fld.type ((cs.drop fld.offset).take (P.cellsOf fld.type))=some x)->∃a,ok a/\(f a).length=n/\LA w (Old w) (f a) (cs.drop off)
theorem au.nil{off}:au enc P w base spare held [] off (λ_:Unit=>[]) (λ_=>True) 0:=by intro fuel cs c _;exact⟨(),trivial,rfl,by simp;omega,by simp⟩
theorem au.cons{fld:Field}{fs:List Field}{off y:Nat}{β:Type}{g:β->List T}{c:β->Prop}(L:fld.offset=off)(h:Reads enc P w base spare held fld.type f ok n)
 (B:au enc P w base spare held fs (off+n) g c y):au enc P w base spare held (fld::fs) off (λx:p×β=>f x.1++g x.2) (λx=>ok x.1/\c x.2) (n+y):=by intro fuel cs Z j;obtain⟨x,q⟩:=j fld (by simp);rw[h.1,L]at q;obtain⟨a,E,e,I⟩:=h.2 fuel _ x (by simp;omega) q;obtain⟨b,O,Q,Y⟩:=B fuel cs (by omega) (λfld J=>j fld (by simp[J]));exact⟨(a,b),⟨E,O⟩,by simp[e,Q],LA.append e I (by rw[List.drop_drop];exact Y)⟩
theorem Reads.struct{fs:Array Field}(I:P.underlying t=some (.struct fs))(y:P.cellsOf t=n)(h:au enc P w base spare held fs.toList 0 f ok n):Reads enc P w base spare held t f ok n:=by
 refine⟨y,λfuel cs x J E=>?_⟩;obtain⟨xs,m,_,_,_,j,q⟩:=DataW.trod_struct I E;obtain⟨a,L,O,Q⟩:=h m cs (by omega) (λfld B=>by
  obtain⟨i,hi⟩:=EW.1 B;have c:fs[i]?=some fld:=by simpa using hi
  have e:i<xs.length:=by rw[j];exact(BJ.1 c).1
  exact⟨xs[i],by rw[q i fld c];simp[e]⟩)
 grind
end
structure Quiet(w w':World):Prop where
 still:Still w w'
 heap:∀b,b<w.heap.size->w'.heap[b]?=w.heap[b]?
theorem AZA{A:Nat->Nat->List Md->Prop}{P:Program}(hA:RX A P){f:CQ}{vs:List V}{n:Nat}(hr:K8 f vs .one [.bool true] [])(O:Mt A P n f){W:World}{args:Array Value}(L:FQ f=vs.map λ_=>Md.v)
 (Y:args.size=vs.length) (Q:∀(i:Nat) V u,vs[i]?=some V->args[i]?=some u->∃sh cs us,V=.v sh cs/\u=mkV sh us/\LA W (Old W) cs us) :
 Calls P n args W λe W'=>e=.returned (.bool true)/\Quiet W W':=by
 have J:∀i:Nat,∃us:List Value,∀V u,vs[i]?=some V->args[i]?=some u->∃sh cs,V=.v sh cs/\u=mkV sh us/\LA W (Old W) cs us:=by
  intro i;cases hV:vs[i]? with
  |none=>exact⟨[],λV u h=>by cases h⟩
  |some V=>
   have B:i<args.size:=by rw[Y];exact(AO.1 hV).1
   obtain⟨sh,cs,us,c,j,I⟩:=Q i V args[i] hV (by simp[B]);refine⟨us,λV' u hV' hu=>?_⟩;cases hV';rw[Array.getElem?_eq_getElem B]at hu;cases hu;exact⟨sh,cs,c,j,I⟩
 have q:=Classical.axiomOfChoice J;obtain⟨U,hU⟩:=q;have hargs:OH A P W (λ_=>Old W) (λ_ _ _=>False) U (FQ f) vs args.toList:=by refine⟨by rw[L];simp,by rw[L];simp[Y],?_,λ_ _ h=>h,λ_ _ _ _ _ h=>h,λ_ _ _ _ _ h=>h.elim,λ_ _ _ h=>h.elim⟩;intro i md V u c j I;rw[L,A0,j]at c;cases c;obtain⟨sh,cs,rfl,h5,h6⟩:=hU i V u j (by simpa using I);exact⟨h5,h6,λ_ _ h=>h⟩
 have:=AXQ hA hr n O W _ _ U args.toList hargs;rw[Array.toArray_toList]at this;refine this.mono ?_;rintro e W' ⟨v,Z,D,rfl,hB⟩;obtain⟨us,rfl,c,j⟩:=hB.res;obtain⟨z,E,hO⟩:=j 0 _ rfl;have Q:us=[.bool true]:=by
  match us,c,E with
  | [y],_,E=>
   simp[AN,AE]at E;subst E;cases hO with
   |sc h _ _=>rw[show y=Value.bool true from h]
 subst Q;exact⟨rfl,hB.still,λb hb=>hB.frame b hb λ_ _ h=>h⟩
section
variable{A:Nat->Nat->List Md->Prop}{P:Program}
def AW3(P:Program)(fn:Func)(f:CQ):Bool:=match fn.body with|some c=>bZ P fn c f|none=>false
def AIA(fn:Func)(f:CQ):List (Nat×CQ):=match fn.body with|some c=>AKH c f|none=>[]
theorem Mt.by{n:Nat}{fn:Func}{f:CQ}{l}(y:P.funcs[n]?=some fn)(e:AW3 P fn f=true)(j:AIA fn f=l)(B:∀p∈l,Mt A P p.1 p.2):Mt A P n f:=by
 unfold AW3 at e;unfold AIA at j;cases q:fn.body with
 |none=>simp[q]at e|some c=>simp[q]at e j;exact .mk y q e (by rw[j];exact B)
theorem Mt.none:∀p∈([]:List (Nat×CQ)),Mt A P p.1 p.2:=by simp
theorem Mt.and{n:Nat}{f:CQ}{l}(h:Mt A P n f)(c:∀p∈l,Mt A P p.1 p.2):∀p∈(n,f)::l,Mt A P p.1 p.2:=by grind
end
end Lv
namespace Lv
open Go Go.ChangeShapes Go.WideShapes Go.ChangeAt Go.RowKit
theorem Quiet.kept{W W'}(h:Quiet W W') may :W.keptBut W' may:=by refine⟨h.still.os,h.still.output,λi hi=>?_⟩;rw[h.heap i hi];grind
variable{H:Type}{enc:TypeId×Value->H}{P:Program}
theorem pt{f:Func}{s:ChangeSpec}{apart fresh handsOn again:Bool}{W W':World}{args:Array Value}{v:Value}{B gs:List (DataW H)}{before pa pv:List MemPlace}
 (hW:DataW.Whole enc P f.params.toList s.vars apart W args.toList B gs before)
 (q:∀(b:Nat) (sp:Nat->Bool) (O:Bool),DataW.TrodAll enc P W' b sp O f.resultTypes.toList (v.resultList f.resultTypes.size) (s.fn H (B++gs)).results [])
 (hargs:∀sp:Nat->Bool,(∀p∈before,sp p.block=true)->DataW.TrodAll enc P W' 0 sp true f.params.toList args.toList (s.fn H (B++gs)).args pa)
 (hvars:∀sp:Nat->Bool,(∀p∈before,sp p.block=true)->DataW.TrodVars enc P W' sp s.vars (s.fn H (B++gs)).vars pv)
 (y:before=pa++pv) (L:Quiet W W')
 (I:∀(j:Nat) (t:TypeId) (r:Value),f.resultTypes[j]?=some t->(v.resultList f.resultTypes.size)[j]?=some r->Value.okWide P W' .any 0 t r) :
 s.post enc P f apart fresh handsOn again W args v W':=by
 have e:∀p∈before,(λb=>decide (b<W.heap.size)) p.block=true:=λp c=>by simpa using hW.lt p c
 have E:=hW.lt;refine⟨B,gs,before,[],pa,pv,hW,q _ _ _,hargs _ e,hvars _ e,World.keptBut_mono (λp c=>⟨c,?_⟩) (L.kept (·∈before)),λ_=>?_⟩;rw[y,Br]at c;exact Or.inr c;obtain⟨_,_,_,_,_,Q,Y⟩:=hW;refine⟨I,_,_,([]++pa)++pv,⟨[]++pa,pv,trodAll_append (hargs _ (λ_ _=>rfl)) (q _ _ _),hvars _ (λ_ _=>rfl),rfl,?_,?_⟩,?_⟩;intro b off c;have J:MemPlace.cell b off∈before:=by rw[y];simpa using c
 rw[L.still.frozen _ (E _ J)];exact Q b off J;grind;intro p c _;rw[y];simpa using c
theorem Quiet.trod{t:TypeId}(q:laidOutB P=true)(B:P.readableRec t=true)(c:t<P.types.size){W W':World}(y:Quiet W W'){sp:Nat->Bool}{v:Value}{d:DataW H}{ps:List MemPlace}
 (h:DataW.Trod enc P W 0 (λ_=>true) true t v d ps) (e:∀x∈ps,x.block<W.heap.size) (j:∀x∈ps,sp x.block=true):DataW.Trod enc P W' 0 sp true t v d ps:=
 WideElems.Trod_stays q B c h (λx E=>by
  have:=y.heap _ (e x E);cases x with
  |cell b o=>exact World.cell?_of_block this|map b=>exact this) j
end Lv
namespace Lv
open Go Go.ChangeShapes Go.WideShapes Go.ChangeAt Go.RowKit
def AN9(w:World)(V:V)(u:Value):Prop:=∃sh cs us,V=.v sh cs/\u=mkV sh us/\LA w (Old w) cs us
section
variable{H:Type}{enc:TypeId×Value->H}{P:Program}{w:World}{base:Nat}{spare:Nat->Bool}{held:Bool}
variable{d:DataW H}{ps:List MemPlace}{p:Type}{t:TypeId}{f:p->List T}{ok:p->Prop}
theorem Reads.str(q:P.underlying t=some .string)(j:P.cellsOf t=1):Reads enc P w base spare held t (λs:List UInt8=>[T.str s]) (λs=>s.length<9223372036854775808) 1:=by refine⟨j,λfuel cs x _ h=>?_⟩;obtain⟨s,rfl,_,y⟩:=DataW.trod_string q h;refine⟨s.data.toList,?_,rfl,rfl,?_⟩;unfold maxLen at y;have:s.data.toList.length=s.size:=Array.length_toList;omega;intro c x e;cases c with|zero=>simp[AN,AE]at e;subst e;exact⟨_,rfl,.sc (by simp[Sc])⟩|succ c=>simp at e
theorem Reads.bool{t}(q:P.underlying t=some .bool)(j:P.cellsOf t=1):Reads enc P w base spare held t (λb:Bool=>[T.bool b]) (λ_=>True) 1:=by
 refine⟨j,λfuel cs x _ h=>?_⟩;obtain⟨b,rfl,_⟩:=DataW.trod_bool q h;refine⟨b,trivial,rfl,rfl,?_⟩;intro c x e;cases c with
 |zero=>simp[AN,AE]at e;subst e;exact⟨_,rfl,.sc rfl⟩|succ c=>simp at e
theorem Reads.u8{t:TypeId}(q:P.underlying t=some (.int .u8))(j:P.cellsOf t=1):Reads enc P w base spare held t (λb:UInt8=>[T.int .u8 b.toNat]) (λ_=>True) 1:=by
 refine⟨j,λfuel cs x _ h=>?_⟩;obtain⟨n,rfl,_,y⟩:=DataW.trod_int q h;simp[Lit.wf,IntKind.min,IntKind.max,IntKind.signed,IntKind.bits]at y;refine⟨UInt8.ofNat n.toNat,trivial,rfl,rfl,?_⟩;intro c x e;cases c with
 |zero=>simp[AN,AE]at e;subst e;refine⟨_,rfl,.sc ?_⟩;simp[Sc,UInt8.toNat_ofNat'];congr 1;omega
 |succ c=>simp at e
theorem Reads.one(h:Reads enc P w base spare held t f ok 1){v}(c:DataW.Trod enc P w base spare held t v d ps)(q:v.cells.toList=[v]) :
 ∃a,ok a/\AN9 w (.v .one (f a)) v:=by obtain⟨fuel,c⟩:=c;rw[q]at c;obtain⟨a,e,y,j⟩:=h.2 _ _ _ rfl c;exact⟨a,e,_,_,[v],rfl,rfl,j⟩
theorem Reads.agg{n:Nat}(h:Reads enc P w base spare held t f ok n){cs:Array Value}(c:DataW.Trod enc P w base spare held t (.agg cs) d ps)(q:cs.size=P.cellsOf t) :
 ∃a,ok a/\AN9 w (.v .agg (f a)) (.agg cs):=by obtain⟨fuel,c⟩:=c;obtain⟨a,e,y,j⟩:=h.2 _ _ _ (by rw[show (Value.agg cs).cells.toList.length=cs.size from by simp[Value.cells],q,h.1]) c;exact⟨a,e,_,_,cs.toList,rfl,by simp[mkV],j⟩
end
variable{H:Type}{enc:TypeId×Value->H}{P:Program}
theorem Quiet.trodAll(J:laidOutB P=true){W W'}(L:Quiet W W'){sp}:∀(ts:List TypeId) (vs:List Value) (y:List (DataW H)) (ps:List MemPlace),(∀t∈ts,P.readableRec t=true/\t<P.types.size) ->
 DataW.TrodAll enc P W 0 (λ_=>true) true ts vs y ps->(∀x∈ps,x.block<W.heap.size)->(∀x∈ps,sp x.block=true)->DataW.TrodAll enc P W' 0 sp true ts vs y ps
 | [],vs,y,ps,_,h,_,_=>by obtain⟨rfl,rfl,rfl⟩:=trodAll_nil h;exact trodAll_mk0
 |t::ts,vs,y,ps,E,h,e,j=>by
  obtain⟨v,I,d,B,p,q,rfl,rfl,rfl,O,Q⟩:=trodAll_cons h;exact trodAll_cons_mk (L.trod J (E t (by simp)).1 (E t (by simp)).2 O (λx c=>e x (by simp[c])) (λx c=>j x (by simp[c])))
   (L.trodAll J ts I B q (λt Y=>E t (by simp[Y])) Q (λx c=>e x (by simp[c])) (λx c=>j x (by simp[c])))
theorem AS6{A:Nat->Nat->List Md->Prop}(hA:RX A P){f:Func}{n tb:Nat}{x:CQ}{Vs:List V}{W:World}{args:Array Value}{s:ChangeSpec}{c:List (DataW H)}{before:List MemPlace}{fresh handsOn again apart:Bool}
 (hl:laidOutB P=true) (B:P.underlying tb=some .bool) (y:f.resultTypes=#[tb])
 (hr:K8 x Vs .one [.bool true] []) (I:Mt A P n x) (hm:FQ x=Vs.map λ_=>Md.v) (j:args.size=Vs.length)
 (hv:∀(i:Nat) V u,Vs[i]?=some V->args[i]?=some u->AN9 W V u)
 (hW:DataW.Whole enc P f.params.toList s.vars apart W args.toList c [] before) (hAll:DataW.TrodAll enc P W 0 (λ_=>true) true f.params.toList args.toList c before) (hvars:s.vars=[])
 (q:∀t∈f.params.toList,P.readableRec t=true/\t<P.types.size)
 (J:(s.fn H (c++[])).results=[.lit (.bool true)]) (L:(s.fn H (c++[])).args=c) (O:(s.fn H (c++[])).vars=[]) :
 Calls P n args W λe W'=>∃v,e=.returned v/\s.post enc P f apart fresh handsOn again W args v W':=by refine(AZA hA hr I hm j ?_).mono ?_;intro i V u Z h2;obtain⟨sh,cs,us,h3,h4,h5⟩:=hv i V u Z h2;grind;rintro e W' ⟨rfl,Y⟩;have E:=hW.lt;refine⟨_,rfl,pt (pa:=before) (pv:=[]) hW (λb sp hd=>?_) (λsp Q=>?_) (λsp _=>?_) (by simp) Y ?_⟩;rw[J,y];exact trodAll_cons_mk (shut_bool B _) trodAll_mk0;rw[L];exact Y.trodAll hl _ _ _ _ q hAll E Q;rw[hvars,O];rfl;exact ok_one (by rw[y]) rfl (okWide_bool_mk B _)
end Lv
