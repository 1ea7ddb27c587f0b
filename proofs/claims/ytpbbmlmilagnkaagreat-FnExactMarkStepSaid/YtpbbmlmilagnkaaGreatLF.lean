/- The light machine is right about the program's code. -/
import Derived.Test.YtpbbmlmilagnkaaGreatLvD
import Derived.Shelf.SlGeneric
import Derived.Shelf.Spec.SlicesInsertGrow
import Derived.Deep.RegionLaw
set_option linter.unusedVariables false
set_option linter.unusedSimpArgs false
set_option linter.unusedSectionVars false
open Array renaming getElem?_append_left->Dq,getElem?_toList->Cc,length_toList->BC,size_append->FK,size_push->F3
open List renaming append_assoc->Bg,drop_eq_nil_of_le->A1,getElem?_append_left->Ar,getElem?_append_right->An,getElem?_cons_zero->AI,getElem?_drop->BU,getElem?_eq_getElem->Ad,getElem?_eq_some_iff->AJ,getElem?_take->Bb,getElem?_toArray->A0,length_append->AO,length_drop->A9,length_nil->AQ,length_take->BQ,mem_of_mem_drop->Cn,size_toArray->Am,take_of_length_le->As
open Nat renaming add_assoc->CB,add_mul->A3,le_refl->AT,min_eq_left->C1,mod_lt->DR,mul_le_mul_right->AV,sub_mul->Er,zero_add->Ai
open Option.some renaming injEq->AB
namespace Lv
open Go Go.Proofs Go.Shelf Go.RowKit Go.Lib
section
variable{P:Program}{ρ:Ren}{w:World}
structure Uf(P:Program)(ρ:Ren)(n e:Nat):Prop where
 mixed:P.follows .mixedOrders=true
 f22:Bears P n (Body2.n22 ρ)
 ov:∀(args:Array Value) (w:World),(callFunc (ρ.f 29) args).run P w=((Extern.SlicesOverlaps.overlaps #[(ρ.t 24),(ρ.t 24)] #[(ρ.t 4)] args).run P w).andThen fun v w'=>.ok (.value v) w'
 t3:P.underlying (ρ.t 3)=some (TypeDesc.int IntKind.i64)
 a3:∀w,(isAgg (ρ.t 3)).run P w=.ok false w
 z3:∀w,(Go.sizeOf (ρ.t 3)).run P w=.ok 1 w
 t4:P.underlying (ρ.t 4)=some TypeDesc.bool
 a4:∀w,(isAgg (ρ.t 4)).run P w=.ok false w
 t24:P.underlying (ρ.t 24)=some (TypeDesc.slice (ρ.t 9))
 a24:∀w,(isAgg (ρ.t 24)).run P w=.ok false w
 z9:∀w,(Go.sizeOf (ρ.t 9)).run P w=.ok e w
 el:EL P (ρ.t 24) e=true
 gr:JH P (ρ.t 9)=true
 two:2<=e
theorem run_copy_row{t u ty el:TypeId}{ti:TypeInfo}{e b o dl dc m k:Nat}{x:Value}{vs:List Value}{cur:Array Value}{E:TypeId}{e':Nat}(ht:P.underlying t=some (.slice el))(hi:P.info? el=some ti)(hs:ti.size=e)
 (hl:∀w',(Builtin.lenOf x).run P w'=.ok m w') (hf:(Builtin.firstCells e k x).run P w=.ok vs.toArray w) (hk:Nat.min m dl=k) (hr:D7 w b cur E e') (hfit:o+vs.length<=cur.size) (h1:∀v∈vs,v.oneCell'=true) :
 (Builtin.copy_ #[t,u] ty #[.slice (some ⟨b,o,none⟩) dl dc,x]).run P w=.ok (goInt k) (w.setRow b (cur.toList.take o++vs++cur.toList.drop (o+vs.length)).toArray):=by
 have hst:=EG (P:=P) (o:=o) hr hfit h1;have hs2:=Fv (P:=P) (w:=w) hi;rw[hs]at hs2;have hl1:=hl w;unfold Builtin.copy_;simp only[Am,List.length_cons,AQ,Ai,Nat.reduceAdd,A0,AI,List.getElem?_cons_succ];generalize Builtin.lenOf=L at hl1 ⊢;generalize Builtin.firstCells=FC at hf ⊢;simp[run_underlying ht,hl1,hk,hs2,hf,hst,goInt,go_sem]
set_option maxHeartbeats 4000000 in
set_option maxRecDepth 100000 in
theorem fY{e fi n c m vc vb voff:Nat}{base:Option Addr}(L:Uf P ρ fi e)(hm:0<m)(hnc:n<=c){v:Value}{w':World}(hnil:base=none->n=0/\c=0)
 (hrun:∀ty,(Builtin.append_ #[(ρ.t 24),(ρ.t 24)] ty #[.slice base n c,.slice (some ⟨vb,voff,none⟩) m vc]).run P w=.ok v w') :
 Calls P fi #[.slice base n c,.int .i64 n,.slice (some ⟨vb,voff,none⟩) m vc] w fun e w2=>e=.returned v/\w2=w':=by
 have t3:=L.t3;have a3:=L.a3;have z3:=L.z3;have t4:=L.t4;have a4:=L.a4;have t24:=L.t24;have a24:=L.a24;have z9:=L.z9;have u3:=run_underlying L.t3;have u4:=run_underlying L.t4;have u24:=run_underlying L.t24;have mixed:=L.mixed;have hz1:¬((m:Int)=0):=by omega
 obtain⟨nm,_,F22⟩:=L.f22
 go_enter F22,Body2.n22_ntmps ρ
 cases base with
 |none=>
  obtain⟨rfl,rfl⟩:=hnil rfl
  go_wp2_with (at_builtin;refine Lib.wpList_append_run _ rfl _ _ _ _ rfl _ _ rfl rfl _ _ (hrun _) ?_)
  go_ret
  exact⟨rfl,rfl⟩
 |some a=>
  obtain⟨ab,ao,asp⟩:=a
  go_wp2_with (at_builtin;refine Lib.wpList_append_run _ rfl _ _ _ _ rfl _ _ rfl rfl _ _ (hrun _) ?_)
  all_goals (go_ret;exact⟨rfl,rfl⟩)
theorem Rk(w:World)(tS tR e:TypeId)(ht:P.underlying tS=some (.slice e))(size:Nat)(hz:∀w,(Go.sizeOf e).run P w=.ok size w)
 (a b:Addr) (la ca lb cb:Nat) (hne:a.block≠b.block) (tA tB:TypeId) (kA kB:Nat)
 (hsa:w.shape? a.block=some (tA,kA)) (hsb:w.shape? b.block=some (tB,kB)) (hkA:kA≠0) (hfb:∀o,w.frozen? { block:=b.block,off:=o,spot:=none}=false) (hb:b.spot=none) :
 (Extern.SlicesOverlaps.overlaps #[tS,tS] #[tR] #[.slice (some a) la ca,.slice (some b) lb cb]).run P w=.ok (.bool false) w:=by
 have hnb:(a.block != b.block)=true:=by simpa using hne
 have hnb':(a.block==b.block)=false:=by simpa using hne
 have hfb1:w.frozen? b=false:=by
  have:=hfb b.off;rw[<-hb]at this;exact this
 have hfb2:w.frozen? { block:=b.block,off:=kB}=false:=hfb kB;change Sem.run P (α:=Value) (do
  let some t:=(#[tS,tS]:Array TypeId)[0]?|stuck "slices.overlaps: no parameter types"
  let .slice elem <-underlying t|stuck "slices.overlaps: slice type expected"
  let size <-sizeOf elem
  match (some a:Option Addr),(some b:Option Addr) with
  |some a,some b=>
   if la=0\/lb=0\/size=0 then pure (Value.bool false)
   else if a.block != b.block&&(<-frozen a)&&(<-frozen b) then unsupported .addressObserved
   else do
    if a.block != b.block then do
     noView a;noView b
     if <-mayBeOne a b then return Value.bool ((<-choose (.extern "sameAddr.stringBytes" 2))==1)
    pure (Value.bool (a.block==b.block&&a.off<b.off+lb*size&&b.off<a.off+la*size))
  |_,_=>pure (Value.bool false)) w=_
 by_cases h0:la=0\/lb=0\/size=0
 .simp[run_underlying ht,hz,h0]
 .cases kA with
  |zero=>exact absurd rfl hkA|succ kA=>
   cases hfa:w.frozen? a<;>cases hfe:w.frozen? { block:=a.block,off:=kA+1} <;>
    simp[run_underlying ht,hz,h0,hnb,hnb',frozen,noView,viewAt,mayBeOne,stringish,shape,Sem.run,hsa,hsb,hfb1,hfb2,hfa,hfe]
set_option maxHeartbeats 4000000 in
set_option maxRecDepth 100000 in
theorem AA8{e fi n c m vc b off vb voff i:Nat}(L:Uf P ρ fi e)(hi:i<n)(hm:0<m)(hroom:n+m<=c)(hnm:n+m<=9223372036854775807){v1 v2:Value}{W1 W2:World}
 (hov:∀lb cb,(Extern.SlicesOverlaps.overlaps #[(ρ.t 24),(ρ.t 24)] #[(ρ.t 4)] #[.slice (some ⟨vb,voff,none⟩) m vc,.slice (some ⟨b,off+(i+m)*e,none⟩) lb cb]).run P w=.ok (.bool false) w)
 (hcp1:∀ty dc sc,(Builtin.copy_ #[(ρ.t 24),(ρ.t 24)] ty #[.slice (some ⟨b,off+(i+m)*e,none⟩) (n+m-(i+m)) dc,.slice (some ⟨b,off+i*e,none⟩) (n+m-i) sc]).run P w.drew=.ok v1 W1)
 (hcp2:∀ty dc,(Builtin.copy_ #[(ρ.t 24),(ρ.t 24)] ty #[.slice (some ⟨b,off+i*e,none⟩) (n+m-i) dc,.slice (some ⟨vb,voff,none⟩) m vc]).run P W1=.ok v2 W2) :
 Calls P fi #[.slice (some ⟨b,off,none⟩) n c,.int .i64 i,.slice (some ⟨vb,voff,none⟩) m vc] w fun e w'=>
  e=.returned (.slice (some ⟨b,off,none⟩) (n+m) c)/\w'=W2:=by
 have t3:=L.t3;have a3:=L.a3;have z3:=L.z3;have t4:=L.t4;have a4:=L.a4;have t24:=L.t24;have a24:=L.a24;have z9:=L.z9;have u3:=run_underlying L.t3;have u4:=run_underlying L.t4;have u24:=run_underlying L.t24;have mixed:=L.mixed;have hz1:¬((m:Int)=0):=by omega
 have hz2:¬((i:Int)=(n:Int)):=by omega
 obtain⟨nm,_,F22⟩:=L.f22;have hov:∀lb cb,(callFunc (ρ.f 29) #[.slice (some ⟨vb,voff,none⟩) m vc,.slice (some ⟨b,off+(i+m)*e,none⟩) lb cb]).run P w=.ok (.value (.bool false)) w:=fun lb cb=>by
  rw[L.ov,hov];rfl
 have hw1:IntKind.i64.wrap ((i:Int)+(m:Int))=(i:Int)+(m:Int):=by rw[IntKind.wrap_i64];omega
 have hb1:(0:Int)<=(i:Int)+(m:Int):=by omega
 have hin:i<=n:=by omega
 have htn:((i:Int)+(m:Int)).toNat=i+m:=by omega
 have hb2:¬(c=i+m):=by omega
 have hb3:(i:Int)<=(n:Int)+(m:Int):=by omega
 have hb4:¬(c=i):=by omega
 go_enter F22,Body2.n22_ntmps ρ
 go_wp2_with (simp only[hov])
 go_region_law_o (refine step_copy_runI rfl _ _ (ρ.t 24) (ρ.t 24) rfl _ _ (by simp[Act.eval,Act.put]) (by simp[Act.eval,Act.put]) (hcp1 _ _ _) ?_)
 go_wp2_with (at_builtin;refine wpList_copy_runI _ rfl _ _ (ρ.t 24) (ρ.t 24) rfl _ _ rfl rfl (hcp2 _ _) ?_)
 go_ret
 exact⟨rfl,rfl⟩
set_option maxHeartbeats 4000000 in
set_option maxRecDepth 100000 in
theorem AE2{e fi n c m vc b off vb voff i G N:Nat}(L:Uf P ρ fi e)(hi:i<n)(hm:0<m)(hnc:n<=c)(hroom:c<n+m)(hnm:n+m<=9223372036854775807)(hGn:n+m<=G){v2 v3:Value}{W1 W2 W3:World}
 (hrz:∀ty,(Builtin.append_ #[(ρ.t 24),(ρ.t 3)] ty #[.slice (some ⟨b,off,none⟩) i c,.int .i64 ((n:Int)+(m:Int)-(i:Int))]).run P w=.ok (.slice (some ⟨N,0,none⟩) (n+m) G) W1)
 (hcpA:∀ty dc,(Builtin.copy_ #[(ρ.t 24),(ρ.t 24)] ty #[.slice (some ⟨N,i*e,none⟩) (n+m-i) dc,.slice (some ⟨vb,voff,none⟩) m vc]).run P W1=.ok v2 W2)
 (hcpB:∀ty dc sc,(Builtin.copy_ #[(ρ.t 24),(ρ.t 24)] ty #[.slice (some ⟨N,(i+m)*e,none⟩) (n+m-(i+m)) dc,.slice (some ⟨b,off+i*e,none⟩) (n-i) sc]).run P W2.drew=.ok v3 W3) :
 Calls P fi #[.slice (some ⟨b,off,none⟩) n c,.int .i64 i,.slice (some ⟨vb,voff,none⟩) m vc] w fun e w'=>
  e=.returned (.slice (some ⟨N,0,none⟩) (n+m) G)/\w'=W3:=by
 have t3:=L.t3;have a3:=L.a3;have z3:=L.z3;have t4:=L.t4;have a4:=L.a4;have t24:=L.t24;have a24:=L.a24;have z9:=L.z9;have u3:=run_underlying L.t3;have u4:=run_underlying L.t4;have u24:=run_underlying L.t24;have mixed:=L.mixed;have hz1:¬((m:Int)=0):=by omega
 have hz2:¬((i:Int)=(n:Int)):=by omega
 have hz3:(c:Int)<(n:Int)+(m:Int):=by omega
 have hGi:¬(G=i):=by omega
 have hGim:¬(G=i+m):=by omega
 have hci:¬(c=i):=by omega
 have hw1:IntKind.i64.wrap ((i:Int)+(m:Int))=(i:Int)+(m:Int):=by rw[IntKind.wrap_i64];omega
 have hb1:(0:Int)<=(i:Int)+(m:Int):=by omega
 have hin:i<=n:=by omega
 have htn:((i:Int)+(m:Int)).toNat=i+m:=by omega
 have hb3:(i:Int)<=(n:Int):=by omega
 obtain⟨nm,_,F22⟩:=L.f22
 go_enter F22,Body2.n22_ntmps ρ
 go_wp2_with (first
  |(at_builtin;refine Lib.wpList_append_run _ rfl _ _ _ _ rfl _ _ rfl rfl _ _ (hrz _) ?_)|(at_builtin;refine wpList_copy_runI _ rfl _ _ (ρ.t 24) (ρ.t 24) rfl _ _ rfl rfl (hcpA _ _) ?_))
 go_region_law_o (refine step_copy_runI rfl _ _ (ρ.t 24) (ρ.t 24) rfl _ _ (by simp[Act.eval,Act.put]) (by simp[Act.eval,Act.put]) (hcpB _ _ _) ?_)
 go_wp2
 go_ret
 exact⟨rfl,rfl⟩
end
section
variable{P:Program}{ρ:Ren}{w:World}
theorem Bo.AJn{w:World}{e n:Nat}{xs:List (List T)}{c:Nat->Nat->Value}{f:Nat->Nat->Blk}{vs:List Value}(h:Bo w e xs c f vs)(hn:n<=xs.length):Bo w e (xs.take n) c f (vs.take (n*e)):=by
 have hm:n*e<=xs.length*e:=AV _ hn;refine⟨by rw[BQ,BQ,h.len,C1 hn,C1 hm],fun row hr=>h.row row (List.mem_of_mem_take hr),?_,?_⟩
 .intro i j x hx;obtain⟨hi,hx⟩:=J3 hx;obtain⟨h1,h2⟩:=h.cell i j x hx;have hj:=Ka hx h.row;refine⟨?_,h2⟩;have:(i+1)*e<=n*e:=AV _ hi
  grind[Nat.add_mul]
 .intro i j x i' j' x' hx hx';exact h.dis i j x i' j' x' (J3 hx).2 (J3 hx').2
theorem Bo.AJa{w:World}{e n:Nat}{xs:List (List T)}{c:Nat->Nat->Value}{f:Nat->Nat->Blk}{vs:List Value}(h:Bo w e xs c f vs)(hn:n<=xs.length):Bo w e (xs.drop n) (fun i j=>c (n+i) j) (fun i j=>f (n+i) j) (vs.drop (n*e)):=by
 refine⟨by rw[A9,A9,h.len,Er],fun row hr=>h.row row (Cn hr),?_,?_⟩
 .intro i j x hx;obtain⟨h1,h2⟩:=h.cell _ j x (LG hx)
  grind[Nat.add_mul]
 .intro i j x i' j' x' hx hx' hne;exact h.dis _ j x _ j' x' (LG hx) (LG hx') (by intro hh;exact hne (by omega))
theorem AE4{B:Blk}{e:Nat}{ys:List (List T)}{v:Value}(hV:View w B (.sl e ys) v)(hf:E3 ys=true)(hne:ys≠[]) :
 ∃vb voff vc c vs,v=.slice (some ⟨vb,voff,none⟩) ys.length vc/\ys.length<=vc/\B vb/\Bo w e ys c (fun _ _ _=>False) vs/\(∀i j x,at2 ys i j=some x->w.cell? ⟨vb,voff+i*e+j,none⟩=some (c i j)):=by
 cases hV with
 |sc h=>exact h.elim|nl=>exact(hne rfl).elim|@sl _ _ a len cap c h1 h2 h3 h4 h5 h6=>
  subst h1;obtain⟨hs,hb⟩:=h4 hne;obtain⟨blk,off,sp⟩:=a;dsimp only at hs hb h5;subst hs;exact⟨blk,off,cap,c,_,rfl,h2,hb,Bo.read h3 (fun i j x hx=>Jz (h6 i j x hx) (MR hf hx)) (by simp),h5⟩
theorem zh{S:Blk}{e:Nat}{x:T}{xs:List (List T)}{v:Value}(hO:Own w x v S)(hc:content x=some xs)(he:eOf e x=true)(hf:E3 xs=true) :
 (v=.slice none 0 0/\xs=[])\/∃b off cap arr E c vs,v=.slice (some ⟨b,off,none⟩) xs.length cap/\xs.length<=cap/\S b/\D7 w b arr E e/\off+cap*e<=arr.size/\Bo w e xs c (fun _ _ _=>False) vs /\
  (∀i j x,at2 xs i j=some x->arr[off+i*e+j]?=some (c i j)):=by
 cases hO with
 |sc h _ _=>
  cases x<;>simp[content]at hc
  .subst hc;exact .inl ⟨h,rfl⟩
  .exact h.elim
 |nl=>simp only[content,AB]at hc;exact .inl ⟨rfl,hc.symm⟩|mp=>simp[content]at hc|@sl _ _ blk off len cap arr E _ c f h1 h2 h3 h4 h5 h6 h7 h8 h9 h10=>
  simp only[content,AB]at hc;simp only[eOf,beq_iff_eq]at he;subst hc he h1;exact .inr ⟨blk,off,cap,arr,E,c,_,rfl,h2,(h10 _).2 (.inl rfl),h4,h5,Bo.read h3 (fun i j x hx=>Jz (h7 i j x hx).view (MR hf hx)) (by simp),h6⟩
theorem Ut{e:Nat}{xs:List (List T)}{c:Nat->Nat->Value}{f:Nat->Nat->Blk}{vs:List Value}{g:Nat->Option Value}(h:Bo w e xs c f vs)(hat:∀i j x,at2 xs i j=some x->g (i*e+j)=some (c i j)):∀k v,vs[k]?=some v->g k=some v:=by
 intro k v hk;have hlt:k<vs.length:=(AJ.1 hk).1;rw[h.len]at hlt;have he:0<e:=by
  grind[Nat.eq_zero_or_pos]
 obtain⟨x,hx⟩:=J2 h.row ((Nat.div_lt_iff_lt_mul he).2 hlt) (DR k he);obtain⟨h1,_⟩:=h.cell _ _ _ hx
 grind[Nat.mul_comm,Nat.div_add_mod]
theorem Mo(l:List Value)(o:Nat)(vs:List Value)(h:o+vs.length<=l.length)(k:Nat):(l.take o++vs++l.drop (o+vs.length))[k]?=if o<=k/\k<o+vs.length then vs[k-o]? else l[k]?:=by
 rw[<-Jw l o vs h,Ez l o vs h]
theorem E4(l:List Value)(o:Nat)(vs:List Value)(h:o+vs.length<=l.length):(l.take o++vs++l.drop (o+vs.length)).length=l.length:=by
 simp;omega
theorem YE{R:Nat->Blk}{G:Nat->Nat->Blk}{U:Nat->List Value}{us:List Value}{w':World}{e N:Nat}{zs:List (List T)}{v:Value}(hO:Own w' (.sl e zs) v (fun b=>b=N))(hs:Still w w')
 (hf:∀b,b<w.heap.size->b≠N->w'.heap[b]?=w.heap[b]?) (hN:w.heap.size<=N\/G 0 0 N) :
 ∃Z D,ZX w w' R G U [.o,.v,.v] us .one [.sl e zs] [] v Z D:=by
 refine⟨fun _=>False,fun p c b=>p=0/\c=0/\b=N,hs,?_,fun _ h=>h.elim,?_,?_,?_,fun _ _ _ _ h=>h,?_⟩
 .grind
 .refine⟨[v],rfl,rfl,?_⟩;intro c x hx
  match c,hx with
  |0,hx=>
   cases hx;exact⟨v,rfl,hO.congr fun b=>by simp⟩
  |c+1,hx=>simp at hx
 .rfl
 .grind
 .rintro p c b ⟨rfl,rfl,rfl⟩;rcases hN with h|h
  .exact .inl h
  .exact .inr ⟨0,0,.o,rfl,rfl,h⟩
theorem MV{need old by_:Nat}(h:old<need)(hl:need<=lim)(hb:by_<=65536):Builtin.nextslicecap need old*by_<=281474976710656:=by
 have h1:=nextslicecap_le h;have h2:need<=268435456:=hl
 calc Builtin.nextslicecap need old*by_<=(2*268435456)*65536:=Nat.mul_le_mul (by omega) hb
  _<=281474976710656:=by omega
theorem AE1{A:Nat->Nat->List Md->Prop}{R:Nat->Blk}{G:Nat->Nat->Blk}{U:Nat->List Value}{us:List Value}{vs:List V}{sh:Sh}{cs:List T}{outs:List (List T)}{fi e:Nat}(L:Uf P ρ fi e)
 (hA:JD A P w R G U [.o,.v,.v] vs us) (hp:Tf (2*e) vs sh cs outs) :
 Calls P fi us.toArray w fun e w'=>∃v Z D,e=.returned v/\ZX w w' R G U [.o,.v,.v] us sh cs outs v Z D:=by
 unfold Tf at hp
 replace hp:=hp.2
 rw[if_pos (by omega),show 2*e / 2=e by omega]at hp;obtain⟨x,xs,y,ys,i,rfl,hcx,hex,hcy,hey,hfx,hfy,hi0,hin,hne,hlim,rfl,rfl,rfl⟩:=hp;obtain⟨u0,u1,u2,rfl⟩:∃u0 u1 u2,us=[u0,u1,u2]:=by
  have:=hA.YN
  match us,this with
  | [a,b,c],_=>exact⟨a,b,c,rfl⟩
 have h0:=hA.arg 0 _ _ _ rfl rfl rfl;have h1:=hA.arg 1 _ _ _ rfl rfl rfl;have h2:=hA.arg 2 _ _ _ rfl rfl rfl;obtain⟨q0,⟨l0,o0⟩,_⟩:=h0;obtain⟨q1,⟨l1,o1⟩,_⟩:=h1;obtain⟨q2,⟨l2,o2⟩,_⟩:=h2;obtain⟨z0,hz0,hO⟩:=o0 0 _ rfl;obtain⟨z1,hz1,hV1⟩:=o1 0 _ rfl;obtain⟨z2,hz2,hV⟩:=o2 0 _ rfl;have e0:u0=z0:=by
  rw[q0];match hU:U 0,l0,hz0 with
  | [a],_,hz0=>simpa[mkV] using hz0
 have e1:u1=z1:=by
  rw[q1];match hU:U 1,l1,hz1 with
  | [a],_,hz0=>simpa[mkV] using hz0
 have e2:u2=z2:=by
  rw[q2];match hU:U 2,l2,hz2 with
  | [a],_,hz0=>simpa[mkV] using hz0
 subst e0 e1 e2;have hi:u1=.int .i64 ((i.toNat:Nat):Int):=by
  cases hV1 with
  |sc h=>rw[show u1=_ from h];congr 1;omega
 subst hi;obtain⟨el,ti,ht,hti,hts,htb,hpos⟩:=Et L.el;have hel:el=ρ.t 9:=by
  have:=L.t24;rw[this]at ht;cases ht;rfl
 subst hel;obtain⟨ti',zv,hti',hzv,hzs,hb0⟩:=Pd L.gr;rw[hti]at hti';cases hti';have hy:y=.sl e ys:=by
  cases y with
  |sl e' ys'=>
   simp only[content,AB]at hcy;simp only[eOf,beq_iff_eq]at hey;rw[hcy,hey]
  |nil=>simp only[content,AB]at hcy;exact absurd hcy.symm hne|_=>simp[content]at hcy
 subst hy;obtain⟨vb,voff,vc,c',news,rfl,hvc,hRb,hY,hYc⟩:=AE4 hV hfy hne;have hvlt:=hA.rlt 2 vb hRb;have hm:0<ys.length:=List.length_pos_iff.2 hne;have hlim':xs.length+ys.length<=268435456:=hlim;have hYk:∀k v,news[k]?=some v->w.cell? ⟨vb,voff+k,none⟩=some v:=Ut (g:=fun k=>w.cell? ⟨vb,voff+k,none⟩) hY (fun i j x hx=>by rw[<-CB];exact hYc i j x hx);have hYsrc:K0 P w e (.slice (some ⟨vb,voff,none⟩) ys.length vc) ys.length news:=Jx hY hYc;have hYapp:MH P w (ρ.t 24) (ρ.t 24) (ρ.t 24) (ρ.t 9) e (.slice (some ⟨vb,voff,none⟩) ys.length vc) ys.length news:=hYsrc.app ht hti hts ht (.inr ⟨_,rfl⟩);have hYf:∀W:World,W.heap[vb]?=w.heap[vb]?->(Builtin.firstCells e ys.length (.slice (some ⟨vb,voff,none⟩) ys.length vc)).run P W=.ok news.toArray W:=fun W hW=>
  run_firstCells_some W e ys.length ⟨vb,voff,none⟩ ys.length vc news (by rw[hY.len]) (fun k v hk=>by
   rw[FE];have:=hYk k v hk;simp only[World.cell?]at this ⊢;rw[hW];exact this)
 have hYl:∀W:World,(Builtin.lenOf (.slice (some ⟨vb,voff,none⟩) ys.length vc)).run P W=.ok ys.length W:=fun W=>by simp[Builtin.lenOf]
 rcases zh hO hcx hex hfx with ⟨rfl,rfl⟩|⟨b,off,cap,arr,E,c,olds,rfl,hnc,hGb,hr,hsz,hX,hXc⟩
 ·-- nil
  have hi':i.toNat=0:=by simpa using hin
  rw[hi'];have hold:K0 P w e (.slice none 0 0) 0 []:=oD;have hrun:=fun ty=>(hYsrc.app (u:=ρ.t 24) (ty:=ty) ht hti hts ht (.inr ⟨_,rfl⟩)).grow hti hzv hts hold (by omega) hb0 (MV (by omega) (by simp only[AQ]at hlim';show 0+ys.length<=268435456;omega) htb) (by simp only[AQ]at hlim';show 0+ys.length<=268435456;omega)
  simp only[Ai]at hrun;refine(fY (n:=0) L hm (AT _) (fun _=>⟨rfl,rfl⟩) hrun).mono ?_;rintro _ w' ⟨rfl,rfl⟩;have hge:=grownCap_ge w ys.length 0 (ρ.t 9);have hOw:=hY.own (w':=Ev w (ρ.t 9) (([]:List Value).toArray++news.toArray++Builtin.zeroCells zv.cells (grownCap w ys.length 0 (ρ.t 9)-ys.length))) (blk:=w.heap.size) (off:=0) (cap:=grownCap w ys.length 0 (ρ.t 9)) (.of I8) (by omega)
   (by
    simp only[FK,Am,AQ,G0,hY.len,hzs,hts,Ai];rw[<-A3];exact AV _ (by omega))
   (by
    intro k v hk;rw[Ai,Dq]
    .simpa using hk
    .have:=(AJ.1 hk).1;simpa using this) (fun _ _ _ _ h=>h) (fun _ _ _ _ _ h=>h.elim)
  obtain⟨Z,D,hB⟩:=YE (w:=w) (R:=R) (G:=G) (U:=U) (us:=[.slice none 0 0,.int .i64 ((i.toNat:Nat):Int),.slice (some ⟨vb,voff,none⟩) ys.length vc]) (hOw.congr (S':=fun b=>b=w.heap.size) (by simp)) (.old (by show w.heap.size<=(w.heap.push _).size;rw[F3];omega) rfl rfl fun b hb=>Dx hb) (fun b hb _=>Dx hb) (.inl (AT _));rw[hi']at hB;exact⟨_,Z,D,rfl,by simpa using hB⟩
 .have hXk:∀k v,olds[k]?=some v->arr[off+k]?=some v:=Ut (g:=fun k=>arr[off+k]?) hX (fun i j x hx=>by rw[<-CB];exact hXc i j x hx);obtain⟨n,hn⟩:∃n,n=i.toNat:=⟨_,rfl⟩;rw[<-hn]at hin ⊢;have hol:=hX.len;have hnl:=hY.len;have hmul:n*e<=xs.length*e:=AV _ hin;have hmulc:xs.length*e<=cap*e:=AV _ hnc;have hXt:=hX.AJn hin;have hXd:=hX.AJa hin;have hFin:=(hXt.app hY (by simp)).app hXd (by simp);have hal:arr.toList.length=arr.size:=BC;have hag:∀j:Nat,arr.toList[j]?=arr[j]?:=fun j=>Cc ..
  have hlf:(xs.take n++ys++xs.drop n).length=xs.length+ys.length:=by simp;omega
  have htl:(olds.take (n*e)).length=n*e:=by rw[BQ,hol];omega
  have hdl:(olds.drop (n*e)).length=xs.length*e-n*e:=by rw[A9,hol]
  have fin:∀(w':World) (N o C:Nat) (arr':Array Value) (E':TypeId),D7 w' N arr' E' e->xs.length+ys.length<=C->o+C*e<=arr'.size ->
   (∀k v,(olds.take (n*e)++news++olds.drop (n*e))[k]?=some v->arr'[o+k]?=some v)->Still w w'->(∀b,b<w.heap.size->b≠N->w'.heap[b]?=w.heap[b]?)->(w.heap.size<=N\/G 0 0 N) ->
   ∃Z D,ZX w w' R G U [.o,.v,.v] [.slice (some ⟨b,off,none⟩) xs.length cap,.int .i64 ((n:Nat):Int),.slice (some ⟨vb,voff,none⟩) ys.length vc] .one [.sl e (xs.take n++ys++xs.drop n)] [] (.slice (some ⟨N,o,none⟩) (xs.length+ys.length) C) Z D:=by
   intro w' N o C arr' E' f1 f2 f3 f4 f5 f6 f7;have hOw:=hFin.own (w':=w') f1 (by rw[hlf];exact f2) f3 f4 (by
    intro i j x _ h;simp only[ite_self]at h) (by
    intro i j x b _ h;simp only[ite_self]at h)
   rw[hlf]at hOw;obtain⟨Z,D,hB⟩:=YE (w:=w) (R:=R) (G:=G) (U:=U) (us:=[.slice (some ⟨b,off,none⟩) xs.length cap,.int .i64 ((n:Nat):Int),.slice (some ⟨vb,voff,none⟩) ys.length vc]) (hOw.congr (S':=fun b=>b=N) (by simp)) f5 f6 f7;exact⟨Z,D,hB⟩
  by_cases hend:n=xs.length
  ·-- at the end
   have htk:olds.take (n*e)=olds:=As (by rw[hol,hend];exact AT _);have hdk:olds.drop (n*e)=[]:=A1 (by rw[hol,hend];exact AT _);rw[htk,hdk,List.append_nil]at fin;by_cases hroom:xs.length+ys.length<=cap
   .have hmr:(xs.length+ys.length)*e<=cap*e:=AV _ hroom;rw[A3]at hmr;have hfit:off+xs.length*e+news.length<=arr.size:=by rw[hnl];omega
    have hfit':off+xs.length*e+news.length<=arr.toList.length:=by rw[BC];exact hfit
    have hrun:=fun ty=>(hYsrc.app (u:=ρ.t 24) (ty:=ty) ht hti hts ht (.inr ⟨_,rfl⟩)).room hroom hr hfit hY.one
    rw[hend];refine(fY (n:=xs.length) L hm hnc (by simp) hrun).mono ?_;rintro _ w' ⟨rfl,rfl⟩;obtain⟨Z,D,hB⟩:=fin _ b off cap (arr.toList.take (off+xs.length*e)++news++arr.toList.drop (off+xs.length*e+news.length)).toArray E (hr.set (by rw[Am,E4 _ _ _ hfit',BC])) hroom (by rw[Am,E4 _ _ _ hfit',BC];omega) (by
     intro k v hk;rw[A0,Mo _ _ _ hfit'];by_cases hk':k<olds.length
     .rw[Ar hk']at hk;rw[if_neg (by omega)];simpa using hXk k v hk
     .rw[An (by omega)]at hk;have h2:=(AJ.1 hk).1;rw[if_pos (by omega),<-hk];congr 1;omega) Still.setRow (fun b' _ hb=>setRow_other hb) (.inr hGb)
    rw[hend]at hB;exact⟨_,Z,D,rfl,hB⟩
   .have hsrc:K0 P w e (.slice (some ⟨b,off,none⟩) xs.length cap) xs.length olds:=Jx hX (fun i j x hx=>by rw[hr.cell];exact hXc i j x hx);have hge:=grownCap_ge w (xs.length+ys.length) cap (ρ.t 9);have hrun:=fun ty=>(hYsrc.app (u:=ρ.t 24) (ty:=ty) ht hti hts ht (.inr ⟨_,rfl⟩)).grow hti hzv hts hsrc (by omega) hb0 (MV (by omega) hlim htb) hlim
    rw[hend];refine(fY (n:=xs.length) L hm hnc (by simp) hrun).mono ?_;rintro _ w' ⟨rfl,rfl⟩;obtain⟨Z,D,hB⟩:=fin (Ev w (ρ.t 9) (olds.toArray++news.toArray++Builtin.zeroCells zv.cells (grownCap w (xs.length+ys.length) cap (ρ.t 9)-(xs.length+ys.length)))) w.heap.size 0 _ _ (ρ.t 9) (.of I8) hge (by
     simp only[FK,Am,G0,hol,hnl,hzs,hts,Ai];rw[<-A3,<-A3];exact AV _ (by omega)) (by
     intro k v hk;rw[Ai,Dq]
     .simpa using hk
     .have:=(AJ.1 hk).1;simpa using this) (.old (by show w.heap.size<=(w.heap.push _).size;rw[F3];omega) rfl rfl fun b hb=>Dx hb) (fun b hb _=>Dx hb) (.inl (AT _))
    rw[hend]at hB;exact⟨_,Z,D,rfl,hB⟩
  .have hlt:n<xs.length:=by omega
   have hXf:∀(W:World) (lo k:Nat),W.heap[b]?=w.heap[b]?->lo+k<=xs.length->∀(l0 c0:Nat),(Builtin.firstCells e k (.slice (some ⟨b,off+lo*e,none⟩) l0 c0)).run P W=.ok ((olds.drop (lo*e)).take (k*e)).toArray W:=by
    intro W lo k hW hlk l0 c0;have hle:(lo+k)*e<=xs.length*e:=AV _ hlk;rw[A3]at hle;refine run_firstCells_some W e k ⟨b,off+lo*e,none⟩ l0 c0 _ (by rw[BQ,A9,hol];omega) (fun j v hj=>?_);rw[FE];rw[Bb]at hj;split at hj
    .rw[BU]at hj;have h1:=hXk _ _ hj;rw[<-hr.cell]at h1;simp only[World.cell?]at h1 ⊢;rw[hW,CB];exact h1
    .cases hj
   have hvb:vb≠b:=fun hh=>hA.rg 2 0 0 vb hRb (by rw[hh];exact hGb)
   have htk:∀k,k=xs.length-n->(olds.drop (n*e)).take (k*e)=olds.drop (n*e):=by
    rintro k rfl;exact As (by rw[hdl,Er];exact AT _)
   have hadd:(n+ys.length)*e=n*e+ys.length*e:=A3 _ _ _;have hdone:∀v∈olds.drop (n*e),v.oneCell'=true:=fun v hv=>hX.one v (Cn hv)
   have hsub:(xs.length-n)*e=xs.length*e-n*e:=Er _ _ _;have hmin1:Nat.min ys.length (xs.length+ys.length-n)=ys.length:=C1 (by omega);have hget:∀(arr0:Array Value) (o:Nat),(∀k,k<n*e->arr0[o+k]?=olds[k]?)->o+(n+ys.length)*e+(xs.length-n)*e<=arr0.size->∀X1:List Value,
    (∀k v,(olds.take (n*e)++news++olds.drop (n*e))[k]?=some v->((if o+n*e<=o+k/\o+k<o+n*e+news.length then news[o+k-(o+n*e)]? else if o+(n+ys.length)*e<=o+k/\o+k<o+(n+ys.length)*e+(olds.drop (n*e)).length then (olds.drop (n*e))[o+k-(o+(n+ys.length)*e)]? else arr0[o+k]?))=some v):=by
    intro arr0 o g1 g2 X1 k v hk;by_cases c1:k<n*e
    .rw[Bg,Ar (by omega)]at hk;rw[Bb,if_pos c1]at hk;rw[if_neg (by omega),if_neg (by omega),g1 k c1,hk]
    .by_cases c2:k<n*e+news.length
     .rw[Bg,An (by omega),Ar (by omega),htl]at hk;rw[if_pos (by omega),<-hk];congr 1;omega
     .rw[An (by rw[AO];omega),AO,htl]at hk;have h2:=(AJ.1 hk).1;rw[if_neg (by omega),if_pos (by omega),<-hk];congr 1;omega
   by_cases hroom:xs.length+ys.length<=cap
   ·-- in place
    have hmr:(xs.length+ys.length)*e<=cap*e:=AV _ hroom;rw[A3]at hmr;have hov:∀lb cb,(Extern.SlicesOverlaps.overlaps #[(ρ.t 24),(ρ.t 24)] #[(ρ.t 4)] #[.slice (some ⟨vb,voff,none⟩) ys.length vc,.slice (some ⟨b,off+(n+ys.length)*e,none⟩) lb cb]).run P w=.ok (.bool false) w:=by
     intro lb cb;have h2:=L.two;have hy0:0<news.length:=by rw[hnl];exact Nat.mul_pos hm hpos
     have hcell:=hYk 0 _ (Ad hy0);obtain⟨fr,hb1,hb2⟩:=hr;obtain⟨ca,ce,cf,hv1,hv2⟩:∃ca ce cf,w.heap[vb]?=some (.cells ca ce cf)/\ca.size≠0:=by
      simp only[World.cell?]at hcell;split at hcell
      .rename_i ca ce cf hv1;simp only[Option.isSome_none,Bool.false_eq_true,if_false]at hcell;have:=(Array.getElem?_eq_some_iff.1 hcell).1;exact⟨ca,ce,cf,hv1,by omega⟩
      .cases hcell
     refine Rk w (ρ.t 24) (ρ.t 4) (ρ.t 9) L.t24 e L.z9 ⟨vb,voff,none⟩ ⟨b,off+(n+ys.length)*e,none⟩ _ _ _ _ hvb ce E ca.size arr.size (by simp[World.shape?,hv1]) (by simp[World.shape?,hb1]) hv2 ?_ rfl;intro o;simp only[World.frozen?,hb1];rcases hb2 with hb2|⟨_,hb2⟩
     .simp[hb2]
     .omega
    have hfit1:off+(n+ys.length)*e+(olds.drop (n*e)).length<=arr.toList.length:=by rw[hdl,hal];omega
    obtain⟨X1,hX1⟩:∃X1,X1=arr.toList.take (off+(n+ys.length)*e)++olds.drop (n*e)++arr.toList.drop (off+(n+ys.length)*e+(olds.drop (n*e)).length):=⟨_,rfl⟩;have hX1l:X1.length=arr.size:=by rw[hX1,E4 _ _ _ hfit1,hal]
    have hr0:D7 w.drew b arr E e:=hr.same rfl;have hcp1:∀ty dc sc,(Builtin.copy_ #[(ρ.t 24),(ρ.t 24)] ty #[.slice (some ⟨b,off+(n+ys.length)*e,none⟩) (xs.length+ys.length-(n+ys.length)) dc,.slice (some ⟨b,off+n*e,none⟩) (xs.length+ys.length-n) sc]).run P w.drew=.ok (goInt (xs.length-n:Nat)) (w.drew.setRow b X1.toArray):=by
     intro ty dc sc;rw[hX1];refine run_copy_row (k:=xs.length-n) (m:=xs.length+ys.length-n) ht hti hts (fun W=>by simp[Builtin.lenOf]) (by have:=hXf w.drew n (xs.length-n) rfl (by omega) (xs.length+ys.length-n) sc;rw[htk _ rfl]at this;exact this) ?_ hr0 (by rw[<-hal];exact hfit1) hdone;show min (xs.length+ys.length-n) (xs.length+ys.length-(n+ys.length))=_;omega
    have hr1:D7 (w.drew.setRow b X1.toArray) b X1.toArray E e:=hr0.set (by simpa using hX1l);have hfit2:off+n*e+news.length<=X1.length:=by rw[hX1l,hnl];omega
    have hcp2:∀ty dc,(Builtin.copy_ #[(ρ.t 24),(ρ.t 24)] ty #[.slice (some ⟨b,off+n*e,none⟩) (xs.length+ys.length-n) dc,.slice (some ⟨vb,voff,none⟩) ys.length vc]).run P (w.drew.setRow b X1.toArray)=.ok (goInt (ys.length:Nat)) ((w.drew.setRow b X1.toArray).setRow b (X1.take (off+n*e)++news++X1.drop (off+n*e+news.length)).toArray):=by
     intro ty dc;exact run_copy_row (k:=ys.length) (m:=ys.length) ht hti hts (fun W=>by simp[Builtin.lenOf]) (hYf _ (setRow_other hvb)) hmin1 hr1 (by simpa using hfit2) hY.one
    refine(AA8 L hlt hm hroom (by omega) hov hcp1 hcp2).mono ?_;rintro _ w' ⟨rfl,rfl⟩;obtain⟨Z,D,hB⟩:=fin ((w.drew.setRow b X1.toArray).setRow b (X1.take (off+n*e)++news++X1.drop (off+n*e+news.length)).toArray) b off cap _ E (hr1.set (by rw[Am,Am,E4 _ _ _ hfit2])) hroom (by rw[Am,E4 _ _ _ hfit2,hX1l];omega) (by
     intro k v hk;rw[A0,Mo _ _ _ hfit2,hX1,Mo _ _ _ hfit1,hag];exact hget arr off (fun k hk=>by
      have:k<olds.length:=by omega
      rw[Ad this];exact hXk k _ (Ad this)) (by omega) [] k v hk)
     ((Still.drawn _).trans (Still.setRow.trans Still.setRow)) (fun b' _ hb=>(setRow_other hb).trans (setRow_other hb)) (.inr hGb)
    exact⟨_,Z,D,rfl,hB⟩
   ·-- a new row
    have hGe:=grownCap_ge w (xs.length+ys.length) cap (ρ.t 9);have hk0:((xs.length:Int)+(ys.length:Int)-(n:Int)).toNat=xs.length+ys.length-n:=by omega
    have hk1:n+(xs.length+ys.length-n)=xs.length+ys.length:=by omega
    have hzapp:=fun ty=>pk (w:=w) (t:=ρ.t 24) (u:=ρ.t 3) (ty:=ty) (k:=.i64) (m:=(xs.length:Int)+(ys.length:Int)-(n:Int)) ht hti hzv L.t3 (by omega) (by show _<=((268435456:Nat):Int);omega) htb (by omega) hzs
    have hsrc:K0 P w e (.slice (some ⟨b,off,none⟩) n cap) n (olds.take (n*e)):=by
     have:=Jx (P:=P) (blk:=b) (off:=off) (cap:=cap) hXt (fun i j x hx=>by rw[hr.cell];exact hXc i j x (J3 hx).2)
     rwa[BQ,C1 hin]at this
    have hrz:=fun ty=>(hzapp ty).grow (ad:=some ⟨b,off,none⟩) (sLen:=n) (sCap:=cap) (olds:=olds.take (n*e)) hti hzv rfl (by rw[hts];exact hsrc) (by omega) hb0 (MV (by omega) (by rw[hk0,hk1];exact hlim) htb) (by rw[hk0,hk1];exact hlim)
    rw[hk0,hk1]at hrz;obtain⟨Gc,hGc⟩:∃Gc,Gc=grownCap w (xs.length+ys.length) cap (ρ.t 9):=⟨_,rfl⟩;rw[<-hGc]at hrz hGe;obtain⟨X0,hX0⟩:∃X0,X0=(olds.take (n*e)).toArray++(Builtin.zeroCells zv.cells (xs.length+ys.length-n)).toList.toArray++Builtin.zeroCells zv.cells (Gc-(xs.length+ys.length)):=⟨_,rfl⟩;rw[<-hX0]at hrz;have hX0l:X0.size=Gc*e:=by
     rw[hX0];simp only[FK,Am,BC,G0,htl,hzs,hts];rw[<-A3,<-A3,hk1];congr 1;omega
    have hX0t:∀k,k<n*e->X0[0+k]?=olds[k]?:=by
     intro k hk;rw[hX0,Ai,Array.append_assoc,Dq (by simp;omega),A0,Bb,if_pos hk]
    have hGm:(xs.length+ys.length)*e<=Gc*e:=AV _ hGe;rw[A3]at hGm;have hXl:X0.toList.length=X0.size:=BC;have hXg:∀j:Nat,X0.toList[j]?=X0[j]?:=fun j=>Cc ..
    have hrN:D7 (Ev w (ρ.t 9) X0) w.heap.size X0 (ρ.t 9) e:=.of I8;have hblt:b<w.heap.size:=hr.lt;have hvN:(Ev w (ρ.t 9) X0).heap[vb]?=w.heap[vb]?:=Dx hvlt;have hfit1:n*e+news.length<=X0.toList.length:=by rw[hXl,hX0l,hnl];omega
    obtain⟨X1,hX1⟩:∃X1,X1=X0.toList.take (n*e)++news++X0.toList.drop (n*e+news.length):=⟨_,rfl⟩;have hX1l:X1.length=Gc*e:=by rw[hX1,E4 _ _ _ hfit1,hXl,hX0l]
    have hcpA:∀ty dc,(Builtin.copy_ #[(ρ.t 24),(ρ.t 24)] ty #[.slice (some ⟨w.heap.size,n*e,none⟩) (xs.length+ys.length-n) dc,.slice (some ⟨vb,voff,none⟩) ys.length vc]).run P (Ev w (ρ.t 9) X0)=.ok (goInt (ys.length:Nat)) ((Ev w (ρ.t 9) X0).setRow w.heap.size X1.toArray):=by
     intro ty dc;rw[hX1];exact run_copy_row (k:=ys.length) (m:=ys.length) ht hti hts (fun W=>by simp[Builtin.lenOf]) (hYf _ hvN) hmin1 hrN (by rw[<-hXl];exact hfit1) hY.one
    have hr1:D7 ((Ev w (ρ.t 9) X0).setRow w.heap.size X1.toArray) w.heap.size X1.toArray (ρ.t 9) e:=hrN.set (by rw[Am,hX1l,hX0l]);have hr2:D7 ((Ev w (ρ.t 9) X0).setRow w.heap.size X1.toArray).drew w.heap.size X1.toArray (ρ.t 9) e:=hr1.same rfl;have hfit2:(n+ys.length)*e+(olds.drop (n*e)).length<=X1.length:=by rw[hX1l,hdl];omega
    have hbW:((Ev w (ρ.t 9) X0).setRow w.heap.size X1.toArray).drew.heap[b]?=w.heap[b]?:=(setRow_other (w:=Ev w (ρ.t 9) X0) (by omega)).trans (Dx hblt);have hcpB:∀ty dc sc,(Builtin.copy_ #[(ρ.t 24),(ρ.t 24)] ty #[.slice (some ⟨w.heap.size,(n+ys.length)*e,none⟩) (xs.length+ys.length-(n+ys.length)) dc,.slice (some ⟨b,off+n*e,none⟩) (xs.length-n) sc]).run P ((Ev w (ρ.t 9) X0).setRow w.heap.size X1.toArray).drew=.ok (goInt (xs.length-n:Nat)) (((Ev w (ρ.t 9) X0).setRow w.heap.size X1.toArray).drew.setRow w.heap.size (X1.take ((n+ys.length)*e)++olds.drop (n*e)++X1.drop ((n+ys.length)*e+(olds.drop (n*e)).length)).toArray):=by
     intro ty dc sc;refine run_copy_row (k:=xs.length-n) (m:=xs.length-n) ht hti hts (fun W=>by simp[Builtin.lenOf]) (by have:=hXf _ n (xs.length-n) hbW (by omega) (xs.length-n) sc;rw[htk _ rfl]at this;exact this) ?_ hr2 (by simpa using hfit2) hdone;show min (xs.length-n) (xs.length+ys.length-(n+ys.length))=_;omega
    refine(AE2 L hlt hm hnc (by omega) (by omega) hGe hrz hcpA hcpB).mono ?_;rintro _ w' ⟨rfl,rfl⟩;have hsG:Still w (Ev w (ρ.t 9) X0):=.old (by show w.heap.size<=(w.heap.push _).size;rw[F3];omega) rfl rfl fun b hb=>Dx hb
    obtain⟨Z,D,hB⟩:=fin (((Ev w (ρ.t 9) X0).setRow w.heap.size X1.toArray).drew.setRow w.heap.size (X1.take ((n+ys.length)*e)++olds.drop (n*e)++X1.drop ((n+ys.length)*e+(olds.drop (n*e)).length)).toArray) w.heap.size 0 Gc _ (ρ.t 9) (hr2.set (by rw[Am,Am,E4 _ _ _ hfit2])) hGe (by rw[Am,E4 _ _ _ hfit2,hX1l];omega) (by
     intro k v hk;have:=hget X0 0 hX0t (by rw[hX0l];omega) [] k v hk;simp only[Ai]at this ⊢;rw[A0,Mo _ _ _ hfit2,hX1,Mo _ _ _ hfit1,hXg,<-this];by_cases c1:n*e<=k/\k<n*e+news.length
     .rw[if_pos c1,if_pos c1,if_neg (by omega)]
     .rw[if_neg c1,if_neg c1])
     (hsG.trans (Still.setRow.trans ((Still.drawn _).trans Still.setRow))) (fun b' hb' hb=>(setRow_other hb).trans ((setRow_other (w:=Ev w (ρ.t 9) X0) hb).trans (Dx hb'))) (.inl (AT _))
    exact⟨_,Z,D,rfl,hB⟩
def PA(P:Program)(n id:Nat)(ms:List Md):Prop:=
 (∃ρ e,Uf P ρ n e/\id=2*e/\ms=[.o,.v,.v])\/(id=1/\∃fn,P.funcs[n]?=some fn/\fn.body.isNone=false/\(fn.name == "runtime.NumGoroutine")=false)
theorem AFn:LD (PA P) P where
 there n id ms h:=by
  rcases h with ⟨ρ,e,L,_,_⟩|⟨_,h⟩
  .obtain⟨nm,h1,h2⟩:=L.f22;exact⟨_,h2,rfl,h1⟩
  .exact h
 ct n id ms vs sh cs outs h hp w R G U us hA:=by
  rcases h with ⟨ρ,e,L,rfl,rfl⟩|⟨rfl,_⟩
  .exact AE1 L hA hp
  .exact(hp.1 rfl).elim
end
section
variable{P:Program}{ρ:Ren}{w:World}
def AAW(P:Program)(el:TypeId):Bool:=match P.info? el with|some i=>(match i.zero with|some z=>z.cells.all (·.oneCell')|none=>false)|none=>false
structure ADF(P:Program)(ρ:Ren)(n e:Nat):Prop where
 mixed:P.follows .mixedOrders=true
 f24:Bears P n (Body2.n24 ρ)
 t0:P.underlying (ρ.t 0)=some (TypeDesc.tuple #[])
 a0:∀w,(isAgg (ρ.t 0)).run P w=.ok false w
 z0:∀w,(Go.sizeOf (ρ.t 0)).run P w=.ok 1 w
 t3:P.underlying (ρ.t 3)=some (TypeDesc.int IntKind.i64)
 a3:∀w,(isAgg (ρ.t 3)).run P w=.ok false w
 z3:∀w,(Go.sizeOf (ρ.t 3)).run P w=.ok 1 w
 t4:P.underlying (ρ.t 4)=some TypeDesc.bool
 a4:∀w,(isAgg (ρ.t 4)).run P w=.ok false w
 z4:∀w,(Go.sizeOf (ρ.t 4)).run P w=.ok 1 w
 t24:P.underlying (ρ.t 24)=some (TypeDesc.slice (ρ.t 9))
 a24:∀w,(isAgg (ρ.t 24)).run P w=.ok false w
 z24:∀w,(Go.sizeOf (ρ.t 24)).run P w=.ok 1 w
 z9:∀w,(Go.sizeOf (ρ.t 9)).run P w=.ok e w
 el:EL P (ρ.t 24) e=true
 gr:JH P (ρ.t 9)=true
 zo:AAW P (ρ.t 9)=true
theorem TX{P:Program}{ops:Array Oper}{o:Oper}{a:Act}{w:World}{K:Act->World->Prop}{Q:Exit->Act->World->Prop}{E:Prop}
 (hg:o.guard=none) (s x:Operand) (t:TypeId) (hop:o.op=Op.call { callee:=Callee.builtin Builtin.append,args:=#[s,x],argTypes:=#[t,t]}) (vs vx:Value) (hs:a.eval s=vs) (hx:a.eval x=vx) {v':Value} {w':World}
 (hr:(Builtin.append_ #[t,t] o.type #[vs,vx]).run P w=.ok v' w') (hK:K (a.put o.dst v') w') :
 if Region.wanted o (yielded ops a.tmps)=true then Oper.wp P o a w K Q else E:=by
 have hw:Region.wanted o (yielded ops a.tmps)=true:=by simp[Region.wanted,hg]
 rw[if_pos hw];unfold Oper.wp;simp[execOp,hop,resolve,invoke,builtin,hs,hx,hr,Result.andThen];exact hK
theorem Zk{t ty el:TypeId}{ti:TypeInfo}{z:Value}{b o m dc e:Nat}{cur:Array Value}{E:TypeId}(ht:P.underlying t=some (.slice el))(hi:P.info? el=some ti)(hz:ti.zero=some z)(hs:z.cells.size=e)
 (h1:z.cells.all (·.oneCell')=true) (hm:0<m) (hr:D7 w b cur E e) (hfit:o+m*e<=cur.size) :
 ∃zs:List Value,zs.length=m*e/\(Builtin.clear_ #[t] ty #[.slice (some ⟨b,o,none⟩) m dc]).run P w=.ok (.tuple #[]) (w.setRow b (cur.toList.take o++zs++cur.toList.drop (o+zs.length)).toArray):=by
 have hlen:(Builtin.zeroCells z.cells m).toList.length=m*e:=by simp[Builtin.zeroCells,hs]
 refine⟨(Builtin.zeroCells z.cells m).toList,hlen,?_⟩;have hone:∀v∈(Builtin.zeroCells z.cells m).toList,v.oneCell'=true:=by
  intro v hv;rw[Array.all_eq_true_iff_forall_mem]at h1;simp only[Builtin.zeroCells]at hv;simp at hv;obtain⟨l,hl,hv⟩:=hv;have hp:0<z.cells.size:=by rcases Nat.eq_zero_or_pos z.cells.size with h0|h0;rw[h0]at hl;simp at hl;exact h0
  have:=DR l hp;exact h1 v (by grind)
 have hst:=EG (P:=P) (o:=o) hr (vs:=(Builtin.zeroCells z.cells m).toList) (by omega) hone;obtain⟨k,rfl⟩:∃k,m=k+1:=⟨m-1,by omega⟩;unfold Builtin.clear_;simp only[Am,A0,AI];have hzv:(zeroValue el).run P w=.ok z w:=by simp[zeroValue,typeInfo,hi,hz,go_sem]
 generalize Builtin.zeroCells=Z at hst ⊢;generalize Value.cells=F at hst ⊢;simp[run_underlying ht,hzv,hst,go_sem]
set_option maxHeartbeats 4000000 in
set_option maxRecDepth 1000000 in
theorem AD1{e fi n c b off i j:Nat}(L:ADF P ρ fi e)(hij:i<j)(hj:j<=n)(hnc:n<=c){A:Addr}(hA:(if c=j then (some (⟨b,off,none⟩:Addr)) else some ⟨b,off+j*e,none⟩)=some A){v:Value}{W1 W2:World}
 (hap:∀ty,(Builtin.append_ #[(ρ.t 24),(ρ.t 24)] ty #[.slice (some ⟨b,off,none⟩) i c,.slice (some A) (n-j) (c-j)]).run P w.drew=.ok (.slice (some ⟨b,off,none⟩) (i+(n-j)) c) W1)
 (hcl:∀ty,(Builtin.clear_ #[(ρ.t 24)] ty #[.slice (some ⟨b,off+(i+(n-j))*e,none⟩) (n-(i+(n-j))) (c-(i+(n-j)))]).run P W1=.ok v W2) :
 Calls P fi #[.slice (some ⟨b,off,none⟩) n c,.int .i64 i,.int .i64 j] w fun e w'=>e=.returned (.slice (some ⟨b,off,none⟩) (i+(n-j)) c)/\w'=W2:=by
 have mixed:=L.mixed;have t0:=L.t0;have a0:=L.a0;have z0:=L.z0;have t3:=L.t3;have a3:=L.a3;have z3:=L.z3;have t4:=L.t4;have a4:=L.a4;have z4:=L.z4;have t24:=L.t24;have a24:=L.a24;have z24:=L.z24;have z9:=L.z9;have u3:=run_underlying L.t3;have u4:=run_underlying L.t4;have u24:=run_underlying L.t24;have hne:¬i=j:=by omega
 have hic:i<=c:=by omega
 have hjc:j<=c:=by omega
 have hne2:¬(c=i+(n-j)):=by omega
 obtain⟨nm,_,F24⟩:=L.f24
 go_enter F24,Body2.n24_ntmps ρ
 go_wp2_with fail
 go_region_law_o (refine TX rfl (.tmp 22) (.tmp 25) (ρ.t 24) rfl _ _ (by simp[Act.eval,Act.put]) (by simp[Act.eval,Act.put]) (hap _) ?_)
 go_wp2
 go_ret
 exact⟨rfl,rfl⟩
theorem AKS{A:Nat->Nat->List Md->Prop}{R:Nat->Blk}{G:Nat->Nat->Blk}{U:Nat->List Value}{us:List Value}{vs:List V}{sh:Sh}{cs:List T}{outs:List (List T)}{fi e:Nat}(L:ADF P ρ fi e)
 (hA:JD A P w R G U [.o,.v,.v] vs us) (hp:Tf (2*e+1) vs sh cs outs) :
 Calls P fi us.toArray w fun e w'=>∃v Z D,e=.returned v/\ZX w w' R G U [.o,.v,.v] us sh cs outs v Z D:=by
 unfold Tf at hp
 replace hp:=hp.2
 rw[if_neg (by omega),show (2*e+1) / 2=e by omega]at hp;obtain⟨xs,i,j,rfl,hfx,hi0,hij,hjn,rfl,rfl,rfl⟩:=hp;obtain⟨u0,u1,u2,rfl⟩:∃u0 u1 u2,us=[u0,u1,u2]:=by
  have:=hA.YN
  match us,this with
  | [a,b,c],_=>exact⟨a,b,c,rfl⟩
 have h0:=hA.arg 0 _ _ _ rfl rfl rfl;have h1:=hA.arg 1 _ _ _ rfl rfl rfl;have h2:=hA.arg 2 _ _ _ rfl rfl rfl;obtain⟨q0,⟨l0,o0⟩,_⟩:=h0;obtain⟨q1,⟨l1,o1⟩,_⟩:=h1;obtain⟨q2,⟨l2,o2⟩,_⟩:=h2;obtain⟨z0,hz0,hO⟩:=o0 0 _ rfl;obtain⟨z1,hz1,hV1⟩:=o1 0 _ rfl;obtain⟨z2,hz2,hV2⟩:=o2 0 _ rfl;have e0:u0=z0:=by
  rw[q0];match hU:U 0,l0,hz0 with
  | [a],_,hz0=>simpa[mkV] using hz0
 have e1:u1=z1:=by
  rw[q1];match hU:U 1,l1,hz1 with
  | [a],_,hz0=>simpa[mkV] using hz0
 have e2:u2=z2:=by
  rw[q2];match hU:U 2,l2,hz2 with
  | [a],_,hz0=>simpa[mkV] using hz0
 subst e0 e1 e2;have hi:u1=.int .i64 ((i.toNat:Nat):Int):=by
  cases hV1 with
  |sc h=>rw[show u1=_ from h];congr 1;omega
 have hj:u2=.int .i64 ((j.toNat:Nat):Int):=by
  cases hV2 with
  |sc h=>rw[show u2=_ from h];congr 1;omega
 subst hi hj;obtain⟨el,ti,ht,hti,hts,htb,hpos⟩:=Et L.el;have hel:el=ρ.t 9:=by
  have:=L.t24;rw[this]at ht;cases ht;rfl
 subst hel;obtain⟨ti',zv,hti',hzv,hzs,hb0⟩:=Pd L.gr;rw[hti]at hti';cases hti';have hzo:zv.cells.all (·.oneCell')=true:=by
  have:=L.zo;unfold AAW at this;simpa only[hti,hzv] using this
 rcases zh (e:=e) hO rfl (by simp[eOf]) hfx with ⟨_,rfl⟩|⟨b,off,cap,arr,E,c,olds,rfl,hnc,hGb,hr,hsz,hX,hXc⟩
 .simp at hjn;omega
 .have hXk:∀k v,olds[k]?=some v->arr[off+k]?=some v:=Ut (g:=fun k=>arr[off+k]?) hX (fun i j x hx=>by rw[<-CB];exact hXc i j x hx);obtain⟨n,hn⟩:∃n,n=xs.length:=⟨_,rfl⟩;obtain⟨p,hp⟩:∃p,p=i.toNat:=⟨_,rfl⟩;obtain⟨q,hq⟩:∃q,q=j.toNat:=⟨_,rfl⟩;rw[<-hp,<-hq];have hpq:p<q:=by omega
  have hqn:q<=n:=by omega
  have hol:olds.length=n*e:=by rw[hX.len,hn]
  have hnc:n<=cap:=by omega
  have m1:p*e<=q*e:=AV _ (by omega);have m2:q*e<=n*e:=AV _ hqn;have m3:n*e<=cap*e:=AV _ hnc;have m4:(n-q)*e=n*e-q*e:=Er _ _ _;have m5:(p+(n-q))*e=p*e+(n-q)*e:=A3 _ _ _;have m6:(n-(p+(n-q)))*e=q*e-p*e:=by rw[show n-(p+(n-q))=q-p by omega,Er]
  have hXf:∀(W:World) (lo k:Nat),W.heap[b]?=w.heap[b]?->lo+k<=n->∀(l0 c0:Nat),(Builtin.firstCells e k (.slice (some ⟨b,off+lo*e,none⟩) l0 c0)).run P W=.ok ((olds.drop (lo*e)).take (k*e)).toArray W:=by
   intro W lo k hW hlk l0 c0;have hle:(lo+k)*e<=n*e:=AV _ hlk;rw[A3]at hle;refine run_firstCells_some W e k ⟨b,off+lo*e,none⟩ l0 c0 _ (by rw[BQ,A9,hol];omega) (fun j v hj=>?_);rw[FE];rw[Bb]at hj;split at hj
   .rw[BU]at hj;have h1:=hXk _ _ hj;rw[<-hr.cell]at h1;simp only[World.cell?]at h1 ⊢;rw[hW,CB];exact h1
   .cases hj
  have hnews:(olds.drop (q*e)).length=(n-q)*e:=by rw[A9,hol,m4]
  obtain⟨A,hAd,hsrc⟩:∃A:Addr,(if cap=q then (some (⟨b,off,none⟩:Addr)) else some ⟨b,off+q*e,none⟩)=some A/\K0 P w.drew e (.slice (some A) (n-q) (cap-q)) (n-q) (olds.drop (q*e)):=by
   by_cases hc:cap=q
   .have hz:n-q=0:=by omega
    have hd:olds.drop (q*e)=[]:=A1 (by rw[hol];rw[show n=q by omega];exact AT _);refine⟨⟨b,off,none⟩,by rw[if_pos hc],?_,?_,?_⟩
    .intro W;simp[Builtin.lenOf]
    .have:=hXf w.drew 0 0 rfl (by omega) (n-q) (cap-q);rw[hz,hd];simpa[hz] using this
    .have:=hXf w.drew.drew 0 0 rfl (by omega) (n-q) (cap-q);rw[hz,hd];simpa[hz] using this
   .have htk:(olds.drop (q*e)).take ((n-q)*e)=olds.drop (q*e):=As (by rw[hnews];exact AT _);refine⟨⟨b,off+q*e,none⟩,by rw[if_neg hc],?_,?_,?_⟩
    .intro W;simp[Builtin.lenOf]
    .have:=hXf w.drew q (n-q) rfl (by omega) (n-q) (cap-q);rw[htk]at this;exact this
    .have:=hXf w.drew.drew q (n-q) rfl (by omega) (n-q) (cap-q);rw[htk]at this;exact this
  have hfit:off+p*e+(olds.drop (q*e)).length<=arr.size:=by rw[hnews];omega
  have hfit':off+p*e+(olds.drop (q*e)).length<=arr.toList.length:=by rw[BC];exact hfit
  have hap:=fun ty=>(hsrc.app (u:=ρ.t 24) (ty:=ty) ht hti hts ht (.inr ⟨_,rfl⟩)).room (b:=b) (o:=off) (sLen:=p) (sCap:=cap) (by omega) (hr.same (w':=w.drew) rfl) hfit (fun v hv=>hX.one v (Cn hv))
  obtain⟨X1,hX1⟩:∃X1,X1=arr.toList.take (off+p*e)++olds.drop (q*e)++arr.toList.drop (off+p*e+(olds.drop (q*e)).length):=⟨_,rfl⟩;rw[<-hX1]at hap;have hX1l:X1.length=arr.size:=by rw[hX1,E4 _ _ _ hfit',BC]
  have hr1:D7 (w.drew.setRow b X1.toArray) b X1.toArray E e:=(hr.same (w':=w.drew) rfl).set (by rw[Am,hX1l]);obtain⟨zs,hzl,hcl0⟩:=Zk (P:=P) (t:=ρ.t 24) (ty:=0) (o:=off+(p+(n-q))*e) (m:=n-(p+(n-q))) (dc:=cap-(p+(n-q))) ht hti hzv (hzs.trans hts) hzo (by omega) hr1 (by rw[Am,hX1l];omega);have hcl:∀ty,(Builtin.clear_ #[(ρ.t 24)] ty #[.slice (some ⟨b,off+(p+(n-q))*e,none⟩) (n-(p+(n-q))) (cap-(p+(n-q)))]).run P (w.drew.setRow b X1.toArray)=.ok (.tuple #[]) ((w.drew.setRow b X1.toArray).setRow b (X1.take (off+(p+(n-q))*e)++zs++X1.drop (off+(p+(n-q))*e+zs.length)).toArray):=fun ty=>hcl0
  have hfit2:off+(p+(n-q))*e+zs.length<=X1.length:=by rw[hX1l,hzl];omega
  rw[<-hn];refine(AD1 L hpq hqn hnc hAd hap hcl).mono ?_;rintro _ w' ⟨rfl,rfl⟩;have hXt:=hX.AJn (n:=p) (by omega);have hXd:=hX.AJa (n:=q) (by omega);have hFin:=hXt.app hXd (by simp);have hlf:(xs.take p++xs.drop q).length=p+(n-q):=by simp;omega
  have htl:(olds.take (p*e)).length=p*e:=by rw[BQ,hol];omega
  have hOw:=hFin.own (w':=(w.drew.setRow b X1.toArray).setRow b (X1.take (off+(p+(n-q))*e)++zs++X1.drop (off+(p+(n-q))*e+zs.length)).toArray) (blk:=b) (off:=off) (cap:=cap) (hr1.set (by rw[Am,Am,E4 _ _ _ hfit2])) (by rw[hlf];omega)
   (by rw[Am,E4 _ _ _ hfit2,hX1l];exact hsz) (by
    intro k v hk;have hkl:=(AJ.1 hk).1;rw[AO,htl,hnews]at hkl;rw[A0,Mo _ _ _ hfit2,if_neg (by omega),hX1,Mo _ _ _ hfit'];by_cases c1:k<p*e
    .rw[Ar (by omega),Bb,if_pos c1]at hk;rw[if_neg (by omega)];simpa using hXk k v hk
    .rw[An (by omega),htl]at hk;rw[if_pos (by rw[hnews];omega),<-hk];congr 1;omega) (by
    intro i j x _ h;simp only[ite_self]at h) (by
    intro i j x b _ h;simp only[ite_self]at h)
  rw[hlf]at hOw;obtain⟨Z,D,hB⟩:=YE (w:=w) (R:=R) (G:=G) (U:=U) (us:=[.slice (some ⟨b,off,none⟩) n cap,.int .i64 ((p:Nat):Int),.int .i64 ((q:Nat):Int)]) (hOw.congr (S':=fun b'=>b'=b) (by simp))
   ((Still.drawn _).trans (Still.setRow.trans Still.setRow)) (fun b' _ hb=>(setRow_other (w:=w.drew.setRow b X1.toArray) hb).trans (setRow_other (w:=w.drew) hb)) (.inr hGb)
  exact⟨_,Z,D,rfl,hB⟩
def PB(P:Program)(n id:Nat)(ms:List Md):Prop:=PA P n id ms\/(∃ρ e,ADF P ρ n e/\id=2*e+1/\ms=[.o,.v,.v])
theorem bw:LD (PB P) P where
 there n id ms h:=by
  rcases h with h|⟨ρ,e,L,_,_⟩
  .exact AFn.there n id ms h
  .obtain⟨nm,h1,h2⟩:=L.f24;exact⟨_,h2,rfl,h1⟩
 ct n id ms vs sh cs outs h hp w R G U us hA:=by
  rcases h with (⟨ρ,e,L,rfl,rfl⟩|⟨rfl,_⟩)|⟨ρ,e,L,rfl,rfl⟩
  .exact AE1 L hA hp
  .exact(hp.1 rfl).elim
  .exact AKS L hA hp
end
end Lv
