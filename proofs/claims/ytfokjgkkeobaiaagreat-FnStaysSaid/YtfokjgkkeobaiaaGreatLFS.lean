/- The light machine is right about the program's code. -/
import Derived.Test.YtfokjgkkeobaiaaGreatLvCS
import Derived.Shelf.SlGeneric
import Derived.Shelf.Spec.SlicesInsertGrow
import Derived.Deep.RegionLaw
set_option linter.all false
open Array renaming getElem?_append_left->DD,getElem?_toList->DL,length_toList->Bg,size_append->EL,size_push->IQ
open Go.Builtin renaming append_->Bh,copy_->Cp,firstCells->BU,lenOf->Bd,nextslicecap->Cs,zeroCells->A4
open List renaming append_assoc->BR,drop_eq_nil_of_le->As,getElem?_append_left->BN,getElem?_append_right->BH,getElem?_cons_zero->AN,getElem?_drop->Bz,getElem?_eq_getElem->AR,getElem?_eq_some_iff->AP,getElem?_take->CB,getElem?_toArray->BS,length_append->AH,length_drop->BI,length_nil->AM,length_take->Aj,mem_of_mem_drop->C5,size_toArray->A1,take_of_length_le->BE
open Nat renaming add_assoc->CV,add_mul->Bb,le_refl->Ab,min_eq_left->D9,mod_lt->Em,mul_le_mul_right->An,sub_mul->G7,zero_add->Ar
open Option.some renaming injEq->AD
namespace Lv
open Go Go.Proofs Go.Shelf Go.RowKit Go.Lib
section
variable{P:Program}{ρ:Ren}{w:World}
structure bJ(P:Program)(ρ:Ren)(n e:Nat):Prop where
 mixed:P.follows .mixedOrders=true
 f22:Bears P n (Body2.n22 ρ)
 ov:∀(args:Array Value) (w:World),(callFunc (ρ.f 29) args).run P w=((Extern.SlicesOverlaps.overlaps #[(ρ.t 24),(ρ.t 24)] #[(ρ.t 4)] args).run P w).andThen λv w'=>.ok (.value v) w'
 t3:P.underlying (ρ.t 3)=some (TypeDesc.int IntKind.i64)
 a3:∀w,(isAgg (ρ.t 3)).run P w=.ok false w
 z3:∀w,(Go.sizeOf (ρ.t 3)).run P w=.ok 1 w
 t4:P.underlying (ρ.t 4)=some TypeDesc.bool
 a4:∀w,(isAgg (ρ.t 4)).run P w=.ok false w
 t24:P.underlying (ρ.t 24)=some (TypeDesc.slice (ρ.t 9))
 a24:∀w,(isAgg (ρ.t 24)).run P w=.ok false w
 z9:∀w,(Go.sizeOf (ρ.t 9)).run P w=.ok e w
 el:F8 P (ρ.t 24) e=true
 gr:NB P (ρ.t 9)=true
 two:2<=e
theorem run_copy_row{t u ty el:TypeId}{ti:TypeInfo}{e b o dl dc m k:Nat}{x:Value}{vs:List Value}{cur:Array Value}{E:TypeId}{q:Nat}(J:P.underlying t=some (.slice el))(hi:P.info? el=some ti)(I:ti.size=e)
 (G:∀w',(Bd x).run P w'=.ok m w') (j:(BU e k x).run P w=.ok vs.toArray w) (B:Nat.min m dl=k) (H:Fb w b cur E q) (a:o+vs.length<=cur.size) (y:∀v∈vs,v.oneCell'=true) :
 (Cp #[t,u] ty #[.slice (some ⟨b,o,none⟩) dl dc,x]).run P w=.ok (goInt k) (w.setRow b (cur.toList.take o++vs++cur.toList.drop (o+vs.length)).toArray):=by
 have h:=Fp (P:=P) (o:=o) H a y;have g:=Ha (P:=P) (w:=w) hi;rw[I]at g;have c:=G w;unfold Cp;simp only[A1,List.length_cons,AM,Ar,Nat.reduceAdd,BS,AN,List.getElem?_cons_succ];generalize Bd=L at c ⊢;generalize BU=FC at j ⊢;simp[run_underlying J,c,B,g,j,h,goInt,go_sem]
set_option maxHeartbeats 4000000 in
set_option maxRecDepth 100000 in
theorem xi{e fi n c m vc vb voff:Nat}{base:Option Addr}(L:bJ P ρ fi e)(E:0<m)(j:n<=c){v:Value}{w':World}(h:base=none->n=0/\c=0)
 (g:∀ty,(Bh #[(ρ.t 24),(ρ.t 24)] ty #[.slice base n c,.slice (some ⟨vb,voff,none⟩) m vc]).run P w=.ok v w') :
 Calls P fi #[.slice base n c,.int .i64 n,.slice (some ⟨vb,voff,none⟩) m vc] w λe B=>e=.returned v/\B=w':=by
 have t3:=L.t3;have a3:=L.a3;have z3:=L.z3;have t4:=L.t4;have a4:=L.a4;have t24:=L.t24;have a24:=L.a24;have z9:=L.z9;have G:=run_underlying L.t3;have H:=run_underlying L.t4;have y:=run_underlying L.t24;have mixed:=L.mixed;have q:¬((m:Int)=0):=by omega
 obtain⟨nm,_,F22⟩:=L.f22
 go_enter F22,Body2.n22_ntmps ρ
 cases base with
 |none=>
  obtain⟨rfl,rfl⟩:=h rfl
  go_wp2_with (at_builtin;refine Lib.wpList_append_run _ rfl _ _ _ _ rfl _ _ rfl rfl _ _ (g _) ?_)
  go_ret
  exact⟨rfl,rfl⟩
 |some a=>
  obtain⟨ab,ao,asp⟩:=a
  go_wp2_with (at_builtin;refine Lib.wpList_append_run _ rfl _ _ _ _ rfl _ _ rfl rfl _ _ (g _) ?_)
  all_goals (go_ret;exact⟨rfl,rfl⟩)
theorem Yo(w:World)(tS tR e:TypeId)(J:P.underlying tS=some (.slice e))(size:Nat)(L:∀w,(Go.sizeOf e).run P w=.ok size w)
 (a b:Addr) (la ca lb cb:Nat) (q:a.block≠b.block) (tA tB:TypeId) (kA kB:Nat)
 (G:w.shape? a.block=some (tA,kA)) (H:w.shape? b.block=some (tB,kB)) (hkA:kA≠0) (c:∀o,w.frozen? { block:=b.block,off:=o,spot:=none}=false) (O:b.spot=none) :
 (Extern.SlicesOverlaps.overlaps #[tS,tS] #[tR] #[.slice (some a) la ca,.slice (some b) lb cb]).run P w=.ok (.bool false) w:=by
 have E:(a.block != b.block)=true:=by simpa using q
 have j:(a.block==b.block)=false:=by simpa using q
 have g:w.frozen? b=false:=by
  have:=c b.off;rw[<-O]at this;exact this
 have h:w.frozen? { block:=b.block,off:=kB}=false:=c kB;change Sem.run P (α:=Value) (do
  let some t:=(#[tS,tS]:Array TypeId)[0]?|stuck "slices.overlaps: no parameter types"
  let .slice elem <-underlying t|stuck "slices.overlaps: slice type expected"
  let size <-sizeOf elem
  match (some a:Option Addr),(some b:Option Addr) with
  |some a,some b=>
   if la=0\/lb=0\/size=0 then pure (Value.bool false)
   else if a.block != b.block&&(<-frozen a)&&(<-frozen b) then unsupported .addressObserved
   else do
    if a.block != b.block then do
     noView a;noView b
     if <-mayBeOne a b then return Value.bool ((<-choose (.extern "sameAddr.stringBytes" 2))==1)
    pure (Value.bool (a.block==b.block&&a.off<b.off+lb*size&&b.off<a.off+la*size))
  |_,_=>pure (Value.bool false)) w=_
 by_cases I:la=0\/lb=0\/size=0
 .simp[run_underlying J,L,I]
 .cases kA with
  |zero=>exact absurd rfl hkA|succ kA=>
   cases y:w.frozen? a<;>cases B:w.frozen? { block:=a.block,off:=kA+1} <;>
    simp[run_underlying J,L,I,E,j,frozen,noView,viewAt,mayBeOne,stringish,shape,Sem.run,G,H,g,h,y,B]
set_option maxHeartbeats 4000000 in
set_option maxRecDepth 100000 in
theorem AMh{e fi n c m vc b off vb voff i:Nat}(L:bJ P ρ fi e)(hi:i<n)(Y:0<m)(hroom:n+m<=c)(G:n+m<=9223372036854775807){S X:Value}{W1 W2:World}
 (a:∀lb cb,(Extern.SlicesOverlaps.overlaps #[(ρ.t 24),(ρ.t 24)] #[(ρ.t 4)] #[.slice (some ⟨vb,voff,none⟩) m vc,.slice (some ⟨b,off+(i+m)*e,none⟩) lb cb]).run P w=.ok (.bool false) w)
 (g:∀ty dc sc,(Cp #[(ρ.t 24),(ρ.t 24)] ty #[.slice (some ⟨b,off+(i+m)*e,none⟩) (n+m-(i+m)) dc,.slice (some ⟨b,off+i*e,none⟩) (n+m-i) sc]).run P w.drew=.ok S W1)
 (h:∀ty dc,(Cp #[(ρ.t 24),(ρ.t 24)] ty #[.slice (some ⟨b,off+i*e,none⟩) (n+m-i) dc,.slice (some ⟨vb,voff,none⟩) m vc]).run P W1=.ok X W2) :
 Calls P fi #[.slice (some ⟨b,off,none⟩) n c,.int .i64 i,.slice (some ⟨vb,voff,none⟩) m vc] w λe w'=>
  e=.returned (.slice (some ⟨b,off,none⟩) (n+m) c)/\w'=W2:=by
 have t3:=L.t3;have a3:=L.a3;have z3:=L.z3;have t4:=L.t4;have a4:=L.a4;have t24:=L.t24;have a24:=L.a24;have z9:=L.z9;have Z:=run_underlying L.t3;have u4:=run_underlying L.t4;have Q:=run_underlying L.t24;have mixed:=L.mixed;have J:¬((m:Int)=0):=by omega
 have O:¬((i:Int)=(n:Int)):=by omega
 obtain⟨nm,_,F22⟩:=L.f22;have a:∀lb cb,(callFunc (ρ.f 29) #[.slice (some ⟨vb,voff,none⟩) m vc,.slice (some ⟨b,off+(i+m)*e,none⟩) lb cb]).run P w=.ok (.value (.bool false)) w:=λlb cb=>by
  rw[L.ov,a];rfl
 have I:IntKind.i64.wrap ((i:Int)+(m:Int))=(i:Int)+(m:Int):=by rw[IntKind.wrap_i64];omega
 have j:(0:Int)<=(i:Int)+(m:Int):=by omega
 have E:i<=n:=by omega
 have H:((i:Int)+(m:Int)).toNat=i+m:=by omega
 have q:¬(c=i+m):=by omega
 have y:(i:Int)<=(n:Int)+(m:Int):=by omega
 have B:¬(c=i):=by omega
 go_enter F22,Body2.n22_ntmps ρ
 go_wp2_with (simp only[a])
 go_region_law_o (refine step_copy_runI rfl _ _ (ρ.t 24) (ρ.t 24) rfl _ _ (by simp[Act.eval,Act.put]) (by simp[Act.eval,Act.put]) (g _ _ _) ?_)
 go_wp2_with (at_builtin;refine wpList_copy_runI _ rfl _ _ (ρ.t 24) (ρ.t 24) rfl _ _ rfl rfl (h _ _) ?_)
 go_ret
 exact⟨rfl,rfl⟩
set_option maxHeartbeats 4000000 in
set_option maxRecDepth 100000 in
theorem ATc{e fi n c m vc b off vb voff i G N:Nat}(L:bJ P ρ fi e)(hi:i<n)(Y:0<m)(y:n<=c)(hroom:c<n+m)(B:n+m<=9223372036854775807)(hGn:n+m<=G){S X:Value}{W1 W2 W3:World}
 (a:∀ty,(Bh #[(ρ.t 24),(ρ.t 3)] ty #[.slice (some ⟨b,off,none⟩) i c,.int .i64 ((n:Int)+(m:Int)-(i:Int))]).run P w=.ok (.slice (some ⟨N,0,none⟩) (n+m) G) W1)
 (hcpA:∀ty dc,(Cp #[(ρ.t 24),(ρ.t 24)] ty #[.slice (some ⟨N,i*e,none⟩) (n+m-i) dc,.slice (some ⟨vb,voff,none⟩) m vc]).run P W1=.ok S W2)
 (hcpB:∀ty dc sc,(Cp #[(ρ.t 24),(ρ.t 24)] ty #[.slice (some ⟨N,(i+m)*e,none⟩) (n+m-(i+m)) dc,.slice (some ⟨b,off+i*e,none⟩) (n-i) sc]).run P W2.drew=.ok X W3) :
 Calls P fi #[.slice (some ⟨b,off,none⟩) n c,.int .i64 i,.slice (some ⟨vb,voff,none⟩) m vc] w λe w'=>
  e=.returned (.slice (some ⟨N,0,none⟩) (n+m) G)/\w'=W3:=by
 have t3:=L.t3;have a3:=L.a3;have z3:=L.z3;have t4:=L.t4;have a4:=L.a4;have t24:=L.t24;have a24:=L.a24;have z9:=L.z9;have Z:=run_underlying L.t3;have u4:=run_underlying L.t4;have Q:=run_underlying L.t24;have mixed:=L.mixed;have I:¬((m:Int)=0):=by omega
 have J:¬((i:Int)=(n:Int)):=by omega
 have O:(c:Int)<(n:Int)+(m:Int):=by omega
 have hGi:¬(G=i):=by omega
 have hGim:¬(G=i+m):=by omega
 have j:¬(c=i):=by omega
 have H:IntKind.i64.wrap ((i:Int)+(m:Int))=(i:Int)+(m:Int):=by rw[IntKind.wrap_i64];omega
 have g:(0:Int)<=(i:Int)+(m:Int):=by omega
 have q:i<=n:=by omega
 have E:((i:Int)+(m:Int)).toNat=i+m:=by omega
 have h:(i:Int)<=(n:Int):=by omega
 obtain⟨nm,_,F22⟩:=L.f22
 go_enter F22,Body2.n22_ntmps ρ
 go_wp2_with (first
  |(at_builtin;refine Lib.wpList_append_run _ rfl _ _ _ _ rfl _ _ rfl rfl _ _ (a _) ?_)|(at_builtin;refine wpList_copy_runI _ rfl _ _ (ρ.t 24) (ρ.t 24) rfl _ _ rfl rfl (hcpA _ _) ?_))
 go_region_law_o (refine step_copy_runI rfl _ _ (ρ.t 24) (ρ.t 24) rfl _ _ (by simp[Act.eval,Act.put]) (by simp[Act.eval,Act.put]) (hcpB _ _ _) ?_)
 go_wp2
 go_ret
 exact⟨rfl,rfl⟩
end
section
variable{P:Program}{ρ:Ren}{w:World}
theorem CW.AYj{w:World}{e n:Nat}{xs:List (List T)}{c:Nat->Nat->Value}{f:Nat->Nat->Blk}{vs:List Value}(h:CW w e xs c f vs)(q:n<=xs.length):CW w e (xs.take n) c f (vs.take (n*e)):=by
 have B:n*e<=xs.length*e:=An _ q;refine⟨by rw[Aj,Aj,h.len,D9 q,D9 B],λrow E=>h.row row (List.mem_of_mem_take E),?_,?_⟩
 .intro i j x a;obtain⟨hi,a⟩:=OK a;obtain⟨J,y⟩:=h.cell i j x a;have L:=PE a h.row;refine⟨?_,y⟩;have:(i+1)*e<=n*e:=An _ hi
  grind[Nat.add_mul]
 .intro i j x G H I a g;exact h.dis i j x G H I (OK a).2 (OK g).2
theorem CW.AYR{w:World}{e n:Nat}{xs:List (List T)}{c:Nat->Nat->Value}{f:Nat->Nat->Blk}{vs:List Value}(h:CW w e xs c f vs)(J:n<=xs.length):CW w e (xs.drop n) (λi j=>c (n+i) j) (λi j=>f (n+i) j) (vs.drop (n*e)):=by
 refine⟨by rw[BI,BI,h.len,G7],λrow y=>h.row row (C5 y),?_,?_⟩
 .intro i j x g;obtain⟨G,H⟩:=h.cell _ j x (QA g)
  grind[Nat.add_mul]
 .intro i j x L B E g q a;exact h.dis _ j x _ B E (QA g) (QA q) (by intro I;exact a (by omega))
theorem ATe{B:Blk}{e:Nat}{ys:List (List T)}{v:Value}(hV:View w B (.sl e ys) v)(Q:HF ys=true)(g:ys≠[]) :
 ∃vb voff vc c vs,v=.slice (some ⟨vb,voff,none⟩) ys.length vc/\ys.length<=vc/\B vb/\CW w e ys c (λ_ _ _=>False) vs/\(∀i j x,at2 ys i j=some x->w.cell? ⟨vb,voff+i*e+j,none⟩=some (c i j)):=by
 cases hV with
 |sc h=>exact h.elim|nl=>exact(g rfl).elim|@sl _ _ a len cap c H I J L q O=>
  subst H;obtain⟨E,y⟩:=L g;obtain⟨blk,off,sp⟩:=a;dsimp only at E y q;subst E;exact⟨blk,off,cap,c,_,rfl,I,y,CW.read J (λi j x G=>OF (O i j x G) (RV Q G)) (by simp),q⟩
theorem ALC{S:Blk}{e:Nat}{x:T}{xs:List (List T)}{v:Value}(hO:Own w x v S)(a:content x=some xs)(q:eOf e x=true)(Q:HF xs=true) :
 (v=.slice none 0 0/\xs=[])\/∃b off cap arr E c vs,v=.slice (some ⟨b,off,none⟩) xs.length cap/\xs.length<=cap/\S b/\Fb w b arr E e/\off+cap*e<=arr.size/\CW w e xs c (λ_ _ _=>False) vs /\
  (∀i j x,at2 xs i j=some x->arr[off+i*e+j]?=some (c i j)):=by
 cases hO with
 |sc h _ _=>
  cases x<;>simp[content]at a
  .subst a;exact .inl ⟨h,rfl⟩
  .exact h.elim
 |nl=>simp only[content,AD]at a;exact .inl ⟨rfl,a.symm⟩|mp=>simp[content]at a|@sl _ _ blk off len cap arr E _ c f B G H I J L O X Y g=>
  simp only[content,AD]at a;simp only[eOf,beq_iff_eq]at q;subst a q B;exact .inr ⟨blk,off,cap,arr,E,c,_,rfl,G,(g _).2 (.inl rfl),I,J,CW.read H (λi j x y=>OF (O i j x y).view (RV Q y)) (by simp),L⟩
theorem fF{e:Nat}{xs:List (List T)}{c:Nat->Nat->Value}{f:Nat->Nat->Blk}{vs:List Value}{g:Nat->Option Value}(h:CW w e xs c f vs)(y:∀i j x,at2 xs i j=some x->g (i*e+j)=some (c i j)):∀k v,vs[k]?=some v->g k=some v:=by
 intro k v B;have a:k<vs.length:=(AP.1 B).1;rw[h.len]at a;have q:0<e:=by
  grind[Nat.eq_zero_or_pos]
 obtain⟨x,E⟩:=OJ h.row ((Nat.div_lt_iff_lt_mul q).2 a) (Em k q);obtain⟨G,_⟩:=h.cell _ _ _ E
 grind[Nat.mul_comm,Nat.div_add_mod]
theorem R7(l:List Value)(o:Nat)(vs:List Value)(h:o+vs.length<=l.length)(k:Nat):(l.take o++vs++l.drop (o+vs.length))[k]?=if o<=k/\k<o+vs.length then vs[k-o]? else l[k]?:=by
 rw[<-K1 l o vs h,GO l o vs h]
theorem GI(l:List Value)(o:Nat)(vs:List Value)(h:o+vs.length<=l.length):(l.take o++vs++l.drop (o+vs.length)).length=l.length:=by
 simp;omega
theorem mQ{R:Nat->Blk}{G:Nat->Nat->Blk}{U:Nat->List Value}{us:List Value}{w':World}{e N:Nat}{g:List (List T)}{v:Value}(hO:Own w' (.sl e g) v (λb=>b=N))(j:Still w w')
 (q:∀b,b<w.heap.size->b≠N->w'.heap[b]?=w.heap[b]?) (hN:w.heap.size<=N\/G 0 0 N) :
 ∃Z D,ot w w' R G U [.o,.v,.v] us .one [.sl e g] [] v Z D:=by
 refine⟨λ_=>False,λp c b=>p=0/\c=0/\b=N,j,?_,λ_ h=>h.elim,?_,?_,?_,λ_ _ _ _ h=>h,?_⟩
 .grind
 .refine⟨[v],rfl,rfl,?_⟩;intro c x a
  match c,a with
  |0,a=>
   cases a;exact⟨v,rfl,hO.congr λb=>by simp⟩
  |c+1,a=>simp at a
 .rfl
 .grind
 .rintro p c b ⟨rfl,rfl,rfl⟩;rcases hN with h|h
  .exact .inl h
  .exact .inr ⟨0,0,.o,rfl,rfl,h⟩
theorem Rg{need old by_:Nat}(h:old<need)(c:need<=lim)(a:by_<=65536):Cs need old*by_<=281474976710656:=by
 have e:=nextslicecap_le h;have g:need<=268435456:=c
 calc Cs need old*by_<=(2*268435456)*65536:=Nat.mul_le_mul (by omega) a
  _<=281474976710656:=by omega
theorem ATb{A:Nat->Nat->List Md->Prop}{R:Nat->Blk}{G:Nat->Nat->Blk}{U:Nat->List Value}{us:List Value}{vs:List V}{sh:Sh}{cs:List T}{outs:List (List T)}{fi e:Nat}(L:bJ P ρ fi e)
 (hA:M6 A P w R G U [.o,.v,.v] vs us) (hp:U7 (2*e) vs sh cs outs) :
 Calls P fi us.toArray w λe w'=>∃v Z D,e=.returned v/\ot w w' R G U [.o,.v,.v] us sh cs outs v Z D:=by
 unfold U7 at hp
 replace hp:=hp.2
 rw[AW (by omega),show 2*e / 2=e by omega]at hp;obtain⟨x,xs,y,ys,i,rfl,hcx,hex,hcy,hey,hfx,hfy,hi0,X,hne,hlim,rfl,rfl,rfl⟩:=hp;obtain⟨u0,u1,u2,rfl⟩:∃u0 u1 u2,us=[u0,u1,u2]:=by
  have:=hA.mb
  match us,this with
  | [a,b,c],_=>exact⟨a,b,c,rfl⟩
 have h0:=hA.arg 0 _ _ _ rfl rfl rfl;have h1:=hA.arg 1 _ _ _ rfl rfl rfl;have h2:=hA.arg 2 _ _ _ rfl rfl rfl;obtain⟨q0,⟨l0,o0⟩,_⟩:=h0;obtain⟨q1,⟨l1,o1⟩,_⟩:=h1;obtain⟨q2,⟨l2,o2⟩,_⟩:=h2;obtain⟨z0,S,hO⟩:=o0 0 _ rfl;obtain⟨z1,hz1,hV1⟩:=o1 0 _ rfl;obtain⟨z2,hz2,hV⟩:=o2 0 _ rfl;have e0:u0=z0:=by
  rw[q0];match hU:U 0,l0,S with
  | [a],_,S=>simpa[mkV] using S
 have e1:u1=z1:=by
  rw[q1];match hU:U 1,l1,hz1 with
  | [a],_,S=>simpa[mkV] using S
 have e2:u2=z2:=by
  rw[q2];match hU:U 2,l2,hz2 with
  | [a],_,S=>simpa[mkV] using S
 subst e0 e1 e2;have hi:u1=.int .i64 ((i.toNat:Nat):Int):=by
  cases hV1 with
  |sc h=>rw[show u1=_ from h];congr 1;omega
 subst hi;obtain⟨el,ti,Q,H,B,htb,hpos⟩:=G9 L.el;have hel:el=ρ.t 9:=by
  have:=L.t24;rw[this]at Q;cases Q;rfl
 subst hel;obtain⟨ti',zv,hti',hzv,hzs,hb0⟩:=Vx L.gr;rw[H]at hti';cases hti';have hy:y=.sl e ys:=by
  cases y with
  |sl e' ys'=>
   simp only[content,AD]at hcy;simp only[eOf,beq_iff_eq]at hey;rw[hcy,hey]
  |nil=>simp only[content,AD]at hcy;exact absurd hcy.symm hne|_=>simp[content]at hcy
 subst hy;obtain⟨vb,voff,vc,c',news,rfl,hvc,hRb,hY,hYc⟩:=ATe hV hfy hne;have hvlt:=hA.rlt 2 vb hRb;have hm:0<ys.length:=List.length_pos_iff.2 hne;have hlim':xs.length+ys.length<=268435456:=hlim;have hYk:∀k v,news[k]?=some v->w.cell? ⟨vb,voff+k,none⟩=some v:=fF (g:=λk=>w.cell? ⟨vb,voff+k,none⟩) hY (λi j x hx=>by rw[<-CV];exact hYc i j x hx);have hYsrc:O5 P w e (.slice (some ⟨vb,voff,none⟩) ys.length vc) ys.length news:=OE hY hYc;have hYapp:RD P w (ρ.t 24) (ρ.t 24) (ρ.t 24) (ρ.t 9) e (.slice (some ⟨vb,voff,none⟩) ys.length vc) ys.length news:=hYsrc.app Q H B Q (.inr ⟨_,rfl⟩);have hYf:∀W:World,W.heap[vb]?=w.heap[vb]?->(BU e ys.length (.slice (some ⟨vb,voff,none⟩) ys.length vc)).run P W=.ok news.toArray W:=λW hW=>
  run_firstCells_some W e ys.length ⟨vb,voff,none⟩ ys.length vc news (by rw[hY.len]) (λk v q=>by
   rw[G3];have:=hYk k v q;simp only[World.cell?]at this ⊢;rw[hW];exact this)
 have hYl:∀W:World,(Bd (.slice (some ⟨vb,voff,none⟩) ys.length vc)).run P W=.ok ys.length W:=λW=>by simp[Bd]
 rcases ALC hO hcx hex hfx with ⟨rfl,rfl⟩|⟨b,off,cap,arr,E,c,olds,rfl,hnc,hGb,hr,hsz,hX,hXc⟩
 ·-- nil
  have hi':i.toNat=0:=by simpa using X
  rw[hi'];have hold:O5 P w e (.slice none 0 0) 0 []:=AD3;have J:=λty=>(hYsrc.app (u:=ρ.t 24) (ty:=ty) Q H B Q (.inr ⟨_,rfl⟩)).grow H hzv B hold (by omega) hb0 (Rg (by omega) (by simp only[AM]at hlim';show 0+ys.length<=268435456;omega) htb) (by simp only[AM]at hlim';show 0+ys.length<=268435456;omega)
  simp only[Ar]at J;refine(xi (n:=0) L hm (Ab _) (λ_=>⟨rfl,rfl⟩) J).mono ?_;rintro _ w' ⟨rfl,rfl⟩;have hge:=grownCap_ge w ys.length 0 (ρ.t 9);have hOw:=hY.own (w':=HA w (ρ.t 9) (([]:List Value).toArray++news.toArray++A4 zv.cells (grownCap w ys.length 0 (ρ.t 9)-ys.length))) (blk:=w.heap.size) (off:=0) (cap:=grownCap w ys.length 0 (ρ.t 9)) (.of LR) (by omega)
   (by
    simp only[EL,A1,AM,Jj,hY.len,hzs,B,Ar];rw[<-Bb];exact An _ (by omega))
   (by
    intro k v q;rw[Ar,DD]
    .simpa using q
    .have:=(AP.1 q).1;simpa using this) (λ_ _ _ _ h=>h) (λ_ _ _ _ _ h=>h.elim)
  obtain⟨Z,D,hB⟩:=mQ (w:=w) (R:=R) (G:=G) (U:=U) (us:=[.slice none 0 0,.int .i64 ((i.toNat:Nat):Int),.slice (some ⟨vb,voff,none⟩) ys.length vc]) (hOw.congr (S':=λb=>b=w.heap.size) (by simp)) (.old (by show w.heap.size<=(w.heap.push _).size;rw[IQ];omega) rfl rfl λb O=>FG O) (λb O _=>FG O) (.inl (Ab _));rw[hi']at hB;exact⟨_,Z,D,rfl,by simpa using hB⟩
 .have hXk:∀k v,olds[k]?=some v->arr[off+k]?=some v:=fF (g:=λk=>arr[off+k]?) hX (λi j x hx=>by rw[<-CV];exact hXc i j x hx);obtain⟨n,hn⟩:∃n,n=i.toNat:=⟨_,rfl⟩;rw[<-hn]at X ⊢;have Y:=hX.len;have hnl:=hY.len;have hmul:n*e<=xs.length*e:=An _ X;have hmulc:xs.length*e<=cap*e:=An _ hnc;have hXt:=hX.AYj X;have hXd:=hX.AYR X;have hFin:=(hXt.app hY (by simp)).app hXd (by simp);have hal:arr.toList.length=arr.size:=Bg;have hag:∀j:Nat,arr.toList[j]?=arr[j]?:=λj=>DL ..
  have hlf:(xs.take n++ys++xs.drop n).length=xs.length+ys.length:=by simp;omega
  have htl:(olds.take (n*e)).length=n*e:=by rw[Aj,Y];omega
  have hdl:(olds.drop (n*e)).length=xs.length*e-n*e:=by rw[BI,Y]
  have fin:∀(w':World) (N o C:Nat) (arr':Array Value) (E':TypeId),Fb w' N arr' E' e->xs.length+ys.length<=C->o+C*e<=arr'.size ->
   (∀k v,(olds.take (n*e)++news++olds.drop (n*e))[k]?=some v->arr'[o+k]?=some v)->Still w w'->(∀b,b<w.heap.size->b≠N->w'.heap[b]?=w.heap[b]?)->(w.heap.size<=N\/G 0 0 N) ->
   ∃Z D,ot w w' R G U [.o,.v,.v] [.slice (some ⟨b,off,none⟩) xs.length cap,.int .i64 ((n:Nat):Int),.slice (some ⟨vb,voff,none⟩) ys.length vc] .one [.sl e (xs.take n++ys++xs.drop n)] [] (.slice (some ⟨N,o,none⟩) (xs.length+ys.length) C) Z D:=by
   intro w' N o C arr' E' f1 f2 f3 f4 f5 f6 f7;have hOw:=hFin.own (w':=w') f1 (by rw[hlf];exact f2) f3 f4 (by
    intro i j x _ h;simp only[ite_self]at h) (by
    intro i j x b _ h;simp only[ite_self]at h)
   rw[hlf]at hOw;obtain⟨Z,D,hB⟩:=mQ (w:=w) (R:=R) (G:=G) (U:=U) (us:=[.slice (some ⟨b,off,none⟩) xs.length cap,.int .i64 ((n:Nat):Int),.slice (some ⟨vb,voff,none⟩) ys.length vc]) (hOw.congr (S':=λb=>b=N) (by simp)) f5 f6 f7;exact⟨Z,D,hB⟩
  by_cases I:n=xs.length
  ·-- at the end
   have htk:olds.take (n*e)=olds:=BE (by rw[Y,I];exact Ab _);have hdk:olds.drop (n*e)=[]:=As (by rw[Y,I];exact Ab _);rw[htk,hdk,List.append_nil]at fin;by_cases hroom:xs.length+ys.length<=cap
   .have hmr:(xs.length+ys.length)*e<=cap*e:=An _ hroom;rw[Bb]at hmr;have hfit:off+xs.length*e+news.length<=arr.size:=by rw[hnl];omega
    have hfit':off+xs.length*e+news.length<=arr.toList.length:=by rw[Bg];exact hfit
    have J:=λty=>(hYsrc.app (u:=ρ.t 24) (ty:=ty) Q H B Q (.inr ⟨_,rfl⟩)).room hroom hr hfit hY.one
    rw[I];refine(xi (n:=xs.length) L hm hnc (by simp) J).mono ?_;rintro _ w' ⟨rfl,rfl⟩;obtain⟨Z,D,hB⟩:=fin _ b off cap (arr.toList.take (off+xs.length*e)++news++arr.toList.drop (off+xs.length*e+news.length)).toArray E (hr.set (by rw[A1,GI _ _ _ hfit',Bg])) hroom (by rw[A1,GI _ _ _ hfit',Bg];omega) (by
     intro k v q;rw[BS,R7 _ _ _ hfit'];by_cases hk':k<olds.length
     .rw[BN hk']at q;rw[AT (by omega)];simpa using hXk k v q
     .rw[BH (by omega)]at q;have h2:=(AP.1 q).1;rw[AW (by omega),<-q];congr 1;omega) Still.setRow (λb' _ O=>setRow_other O) (.inr hGb)
    rw[I]at hB;exact⟨_,Z,D,rfl,hB⟩
   .have hsrc:O5 P w e (.slice (some ⟨b,off,none⟩) xs.length cap) xs.length olds:=OE hX (λi j x hx=>by rw[hr.cell];exact hXc i j x hx);have hge:=grownCap_ge w (xs.length+ys.length) cap (ρ.t 9);have J:=λty=>(hYsrc.app (u:=ρ.t 24) (ty:=ty) Q H B Q (.inr ⟨_,rfl⟩)).grow H hzv B hsrc (by omega) hb0 (Rg (by omega) hlim htb) hlim
    rw[I];refine(xi (n:=xs.length) L hm hnc (by simp) J).mono ?_;rintro _ w' ⟨rfl,rfl⟩;obtain⟨Z,D,hB⟩:=fin (HA w (ρ.t 9) (olds.toArray++news.toArray++A4 zv.cells (grownCap w (xs.length+ys.length) cap (ρ.t 9)-(xs.length+ys.length)))) w.heap.size 0 _ _ (ρ.t 9) (.of LR) hge (by
     simp only[EL,A1,Jj,Y,hnl,hzs,B,Ar];rw[<-Bb,<-Bb];exact An _ (by omega)) (by
     intro k v q;rw[Ar,DD]
     .simpa using q
     .have:=(AP.1 q).1;simpa using this) (.old (by show w.heap.size<=(w.heap.push _).size;rw[IQ];omega) rfl rfl λb O=>FG O) (λb O _=>FG O) (.inl (Ab _))
    rw[I]at hB;exact⟨_,Z,D,rfl,hB⟩
  .have hlt:n<xs.length:=by omega
   have hXf:∀(W:World) (lo k:Nat),W.heap[b]?=w.heap[b]?->lo+k<=xs.length->∀(l0 c0:Nat),(BU e k (.slice (some ⟨b,off+lo*e,none⟩) l0 c0)).run P W=.ok ((olds.drop (lo*e)).take (k*e)).toArray W:=by
    intro W lo k hW hlk l0 c0;have hle:(lo+k)*e<=xs.length*e:=An _ hlk;rw[Bb]at hle;refine run_firstCells_some W e k ⟨b,off+lo*e,none⟩ l0 c0 _ (by rw[Aj,BI,Y];omega) (λj v hj=>?_);rw[G3];rw[CB]at hj;split at hj
    .rw[Bz]at hj;have h1:=hXk _ _ hj;rw[<-hr.cell]at h1;simp only[World.cell?]at h1 ⊢;rw[hW,CV];exact h1
    .cases hj
   have hvb:vb≠b:=λhh=>hA.rg 2 0 0 vb hRb (by rw[hh];exact hGb)
   have htk:∀k,k=xs.length-n->(olds.drop (n*e)).take (k*e)=olds.drop (n*e):=by
    rintro k rfl;exact BE (by rw[hdl,G7];exact Ab _)
   have hadd:(n+ys.length)*e=n*e+ys.length*e:=Bb _ _ _;have hdone:∀v∈olds.drop (n*e),v.oneCell'=true:=λv hv=>hX.one v (C5 hv)
   have hsub:(xs.length-n)*e=xs.length*e-n*e:=G7 _ _ _;have hmin1:Nat.min ys.length (xs.length+ys.length-n)=ys.length:=D9 (by omega);have hget:∀(arr0:Array Value) (o:Nat),(∀k,k<n*e->arr0[o+k]?=olds[k]?)->o+(n+ys.length)*e+(xs.length-n)*e<=arr0.size->∀X1:List Value,
    (∀k v,(olds.take (n*e)++news++olds.drop (n*e))[k]?=some v->((if o+n*e<=o+k/\o+k<o+n*e+news.length then news[o+k-(o+n*e)]? else if o+(n+ys.length)*e<=o+k/\o+k<o+(n+ys.length)*e+(olds.drop (n*e)).length then (olds.drop (n*e))[o+k-(o+(n+ys.length)*e)]? else arr0[o+k]?))=some v):=by
    intro arr0 o g1 g2 X1 k v q;by_cases c1:k<n*e
    .rw[BR,BN (by omega)]at q;rw[CB,AW c1]at q;rw[AT (by omega),AT (by omega),g1 k c1,q]
    .by_cases c2:k<n*e+news.length
     .rw[BR,BH (by omega),BN (by omega),htl]at q;rw[AW (by omega),<-q];congr 1;omega
     .rw[BH (by rw[AH];omega),AH,htl]at q;have h2:=(AP.1 q).1;rw[AT (by omega),AW (by omega),<-q];congr 1;omega
   by_cases hroom:xs.length+ys.length<=cap
   ·-- in place
    have hmr:(xs.length+ys.length)*e<=cap*e:=An _ hroom;rw[Bb]at hmr;have hov:∀lb cb,(Extern.SlicesOverlaps.overlaps #[(ρ.t 24),(ρ.t 24)] #[(ρ.t 4)] #[.slice (some ⟨vb,voff,none⟩) ys.length vc,.slice (some ⟨b,off+(n+ys.length)*e,none⟩) lb cb]).run P w=.ok (.bool false) w:=by
     intro lb cb;have h2:=L.two;have hy0:0<news.length:=by rw[hnl];exact Nat.mul_pos hm hpos
     have hcell:=hYk 0 _ (AR hy0);obtain⟨fr,hb1,hb2⟩:=hr;obtain⟨ca,ce,cf,hv1,hv2⟩:∃ca ce cf,w.heap[vb]?=some (.cells ca ce cf)/\ca.size≠0:=by
      simp only[World.cell?]at hcell;split at hcell
      .rename_i ca ce cf hv1;simp only[Option.isSome_none,Bool.false_eq_true,if_false]at hcell;have:=(Array.getElem?_eq_some_iff.1 hcell).1;exact⟨ca,ce,cf,hv1,by omega⟩
      .cases hcell
     refine Yo w (ρ.t 24) (ρ.t 4) (ρ.t 9) L.t24 e L.z9 ⟨vb,voff,none⟩ ⟨b,off+(n+ys.length)*e,none⟩ _ _ _ _ hvb ce E ca.size arr.size (by simp[World.shape?,hv1]) (by simp[World.shape?,hb1]) hv2 ?_ rfl;intro o;simp only[World.frozen?,hb1];rcases hb2 with hb2|⟨_,hb2⟩
     .simp[hb2]
     .omega
    have hfit1:off+(n+ys.length)*e+(olds.drop (n*e)).length<=arr.toList.length:=by rw[hdl,hal];omega
    obtain⟨X1,hX1⟩:∃X1,X1=arr.toList.take (off+(n+ys.length)*e)++olds.drop (n*e)++arr.toList.drop (off+(n+ys.length)*e+(olds.drop (n*e)).length):=⟨_,rfl⟩;have hX1l:X1.length=arr.size:=by rw[hX1,GI _ _ _ hfit1,hal]
    have hr0:Fb w.drew b arr E e:=hr.same rfl;have hcp1:∀ty dc sc,(Cp #[(ρ.t 24),(ρ.t 24)] ty #[.slice (some ⟨b,off+(n+ys.length)*e,none⟩) (xs.length+ys.length-(n+ys.length)) dc,.slice (some ⟨b,off+n*e,none⟩) (xs.length+ys.length-n) sc]).run P w.drew=.ok (goInt (xs.length-n:Nat)) (w.drew.setRow b X1.toArray):=by
     intro ty dc sc;rw[hX1];refine run_copy_row (k:=xs.length-n) (m:=xs.length+ys.length-n) Q H B (λW=>by simp[Bd]) (by have:=hXf w.drew n (xs.length-n) rfl (by omega) (xs.length+ys.length-n) sc;rw[htk _ rfl]at this;exact this) ?_ hr0 (by rw[<-hal];exact hfit1) hdone;show min (xs.length+ys.length-n) (xs.length+ys.length-(n+ys.length))=_;omega
    have hr1:Fb (w.drew.setRow b X1.toArray) b X1.toArray E e:=hr0.set (by simpa using hX1l);have hfit2:off+n*e+news.length<=X1.length:=by rw[hX1l,hnl];omega
    have hcp2:∀ty dc,(Cp #[(ρ.t 24),(ρ.t 24)] ty #[.slice (some ⟨b,off+n*e,none⟩) (xs.length+ys.length-n) dc,.slice (some ⟨vb,voff,none⟩) ys.length vc]).run P (w.drew.setRow b X1.toArray)=.ok (goInt (ys.length:Nat)) ((w.drew.setRow b X1.toArray).setRow b (X1.take (off+n*e)++news++X1.drop (off+n*e+news.length)).toArray):=by
     intro ty dc;exact run_copy_row (k:=ys.length) (m:=ys.length) Q H B (λW=>by simp[Bd]) (hYf _ (setRow_other hvb)) hmin1 hr1 (by simpa using hfit2) hY.one
    refine(AMh L hlt hm hroom (by omega) hov hcp1 hcp2).mono ?_;rintro _ w' ⟨rfl,rfl⟩;obtain⟨Z,D,hB⟩:=fin ((w.drew.setRow b X1.toArray).setRow b (X1.take (off+n*e)++news++X1.drop (off+n*e+news.length)).toArray) b off cap _ E (hr1.set (by rw[A1,A1,GI _ _ _ hfit2])) hroom (by rw[A1,GI _ _ _ hfit2,hX1l];omega) (by
     intro k v q;rw[BS,R7 _ _ _ hfit2,hX1,R7 _ _ _ hfit1,hag];exact hget arr off (λk q=>by
      have:k<olds.length:=by omega
      rw[AR this];exact hXk k _ (AR this)) (by omega) [] k v q)
     ((Still.drawn _).trans (Still.setRow.trans Still.setRow)) (λb' _ O=>(setRow_other O).trans (setRow_other O)) (.inr hGb)
    exact⟨_,Z,D,rfl,hB⟩
   ·-- a new row
    have hGe:=grownCap_ge w (xs.length+ys.length) cap (ρ.t 9);have hk0:((xs.length:Int)+(ys.length:Int)-(n:Int)).toNat=xs.length+ys.length-n:=by omega
    have hk1:n+(xs.length+ys.length-n)=xs.length+ys.length:=by omega
    have hzapp:=λty=>AFI (w:=w) (t:=ρ.t 24) (u:=ρ.t 3) (ty:=ty) (k:=.i64) (m:=(xs.length:Int)+(ys.length:Int)-(n:Int)) Q H hzv L.t3 (by omega) (by show _<=((268435456:Nat):Int);omega) htb (by omega) hzs
    have hsrc:O5 P w e (.slice (some ⟨b,off,none⟩) n cap) n (olds.take (n*e)):=by
     have:=OE (P:=P) (blk:=b) (off:=off) (cap:=cap) hXt (λi j x hx=>by rw[hr.cell];exact hXc i j x (OK hx).2)
     rwa[Aj,D9 X]at this
    have hrz:=λty=>(hzapp ty).grow (ad:=some ⟨b,off,none⟩) (sLen:=n) (sCap:=cap) (olds:=olds.take (n*e)) H hzv rfl (by rw[B];exact hsrc) (by omega) hb0 (Rg (by omega) (by rw[hk0,hk1];exact hlim) htb) (by rw[hk0,hk1];exact hlim)
    rw[hk0,hk1]at hrz;obtain⟨Gc,hGc⟩:∃Gc,Gc=grownCap w (xs.length+ys.length) cap (ρ.t 9):=⟨_,rfl⟩;rw[<-hGc]at hrz hGe;obtain⟨X0,hX0⟩:∃X0,X0=(olds.take (n*e)).toArray++(A4 zv.cells (xs.length+ys.length-n)).toList.toArray++A4 zv.cells (Gc-(xs.length+ys.length)):=⟨_,rfl⟩;rw[<-hX0]at hrz;have hX0l:X0.size=Gc*e:=by
     rw[hX0];simp only[EL,A1,Bg,Jj,htl,hzs,B];rw[<-Bb,<-Bb,hk1];congr 1;omega
    have hX0t:∀k,k<n*e->X0[0+k]?=olds[k]?:=by
     intro k q;rw[hX0,Ar,Array.append_assoc,DD (by simp;omega),BS,CB,AW q]
    have hGm:(xs.length+ys.length)*e<=Gc*e:=An _ hGe;rw[Bb]at hGm;have hXl:X0.toList.length=X0.size:=Bg;have hXg:∀j:Nat,X0.toList[j]?=X0[j]?:=λj=>DL ..
    have hrN:Fb (HA w (ρ.t 9) X0) w.heap.size X0 (ρ.t 9) e:=.of LR;have hblt:b<w.heap.size:=hr.lt;have hvN:(HA w (ρ.t 9) X0).heap[vb]?=w.heap[vb]?:=FG hvlt;have hfit1:n*e+news.length<=X0.toList.length:=by rw[hXl,hX0l,hnl];omega
    obtain⟨X1,hX1⟩:∃X1,X1=X0.toList.take (n*e)++news++X0.toList.drop (n*e+news.length):=⟨_,rfl⟩;have hX1l:X1.length=Gc*e:=by rw[hX1,GI _ _ _ hfit1,hXl,hX0l]
    have hcpA:∀ty dc,(Cp #[(ρ.t 24),(ρ.t 24)] ty #[.slice (some ⟨w.heap.size,n*e,none⟩) (xs.length+ys.length-n) dc,.slice (some ⟨vb,voff,none⟩) ys.length vc]).run P (HA w (ρ.t 9) X0)=.ok (goInt (ys.length:Nat)) ((HA w (ρ.t 9) X0).setRow w.heap.size X1.toArray):=by
     intro ty dc;rw[hX1];exact run_copy_row (k:=ys.length) (m:=ys.length) Q H B (λW=>by simp[Bd]) (hYf _ hvN) hmin1 hrN (by rw[<-hXl];exact hfit1) hY.one
    have hr1:Fb ((HA w (ρ.t 9) X0).setRow w.heap.size X1.toArray) w.heap.size X1.toArray (ρ.t 9) e:=hrN.set (by rw[A1,hX1l,hX0l]);have hr2:Fb ((HA w (ρ.t 9) X0).setRow w.heap.size X1.toArray).drew w.heap.size X1.toArray (ρ.t 9) e:=hr1.same rfl;have hfit2:(n+ys.length)*e+(olds.drop (n*e)).length<=X1.length:=by rw[hX1l,hdl];omega
    have hbW:((HA w (ρ.t 9) X0).setRow w.heap.size X1.toArray).drew.heap[b]?=w.heap[b]?:=(setRow_other (w:=HA w (ρ.t 9) X0) (by omega)).trans (FG hblt);have hcpB:∀ty dc sc,(Cp #[(ρ.t 24),(ρ.t 24)] ty #[.slice (some ⟨w.heap.size,(n+ys.length)*e,none⟩) (xs.length+ys.length-(n+ys.length)) dc,.slice (some ⟨b,off+n*e,none⟩) (xs.length-n) sc]).run P ((HA w (ρ.t 9) X0).setRow w.heap.size X1.toArray).drew=.ok (goInt (xs.length-n:Nat)) (((HA w (ρ.t 9) X0).setRow w.heap.size X1.toArray).drew.setRow w.heap.size (X1.take ((n+ys.length)*e)++olds.drop (n*e)++X1.drop ((n+ys.length)*e+(olds.drop (n*e)).length)).toArray):=by
     intro ty dc sc;refine run_copy_row (k:=xs.length-n) (m:=xs.length-n) Q H B (λW=>by simp[Bd]) (by have:=hXf _ n (xs.length-n) hbW (by omega) (xs.length-n) sc;rw[htk _ rfl]at this;exact this) ?_ hr2 (by simpa using hfit2) hdone;show min (xs.length-n) (xs.length+ys.length-(n+ys.length))=_;omega
    refine(ATc L hlt hm hnc (by omega) (by omega) hGe hrz hcpA hcpB).mono ?_;rintro _ w' ⟨rfl,rfl⟩;have hsG:Still w (HA w (ρ.t 9) X0):=.old (by show w.heap.size<=(w.heap.push _).size;rw[IQ];omega) rfl rfl λb O=>FG O
    obtain⟨Z,D,hB⟩:=fin (((HA w (ρ.t 9) X0).setRow w.heap.size X1.toArray).drew.setRow w.heap.size (X1.take ((n+ys.length)*e)++olds.drop (n*e)++X1.drop ((n+ys.length)*e+(olds.drop (n*e)).length)).toArray) w.heap.size 0 Gc _ (ρ.t 9) (hr2.set (by rw[A1,A1,GI _ _ _ hfit2])) hGe (by rw[A1,GI _ _ _ hfit2,hX1l];omega) (by
     intro k v q;have:=hget X0 0 hX0t (by rw[hX0l];omega) [] k v q;simp only[Ar]at this ⊢;rw[BS,R7 _ _ _ hfit2,hX1,R7 _ _ _ hfit1,hXg,<-this];by_cases c1:n*e<=k/\k<n*e+news.length
     .rw[AW c1,AW c1,AT (by omega)]
     .rw[AT c1,AT c1])
     (hsG.trans (Still.setRow.trans ((Still.drawn _).trans Still.setRow))) (λb' hb' O=>(setRow_other O).trans ((setRow_other (w:=HA w (ρ.t 9) X0) O).trans (FG hb'))) (.inl (Ab _))
    exact⟨_,Z,D,rfl,hB⟩
def PA(P:Program)(n id:Nat)(ms:List Md):Prop:=
 (∃ρ e,bJ P ρ n e/\id=2*e/\ms=[.o,.v,.v])\/(id=1/\∃fn,P.funcs[n]?=some fn/\fn.body.isNone=false/\(fn.name == "runtime.NumGoroutine")=false)
theorem AUS:P9 (PA P) P where
 there n id ms h:=by
  rcases h with ⟨ρ,e,L,_,_⟩|⟨_,h⟩
  .obtain⟨nm,c,g⟩:=L.f22;exact⟨_,g,rfl,c⟩
  .exact h
 ct n id ms vs sh cs outs h a w R G U us hA:=by
  rcases h with ⟨ρ,e,L,rfl,rfl⟩|⟨rfl,_⟩
  .exact ATb L hA a
  .exact(a.1 rfl).elim
def ALv(P:Program)(el:TypeId):Bool:=match P.info? el with|some i=>(match i.zero with|some z=>z.cells.all (·.oneCell')|none=>false)|none=>false
structure pS(P:Program)(ρ:Ren)(n e:Nat):Prop where
 mixed:P.follows .mixedOrders=true
 f24:Bears P n (Body2.n24 ρ)
 t0:P.underlying (ρ.t 0)=some (TypeDesc.tuple #[])
 a0:∀w,(isAgg (ρ.t 0)).run P w=.ok false w
 z0:∀w,(Go.sizeOf (ρ.t 0)).run P w=.ok 1 w
 t3:P.underlying (ρ.t 3)=some (TypeDesc.int IntKind.i64)
 a3:∀w,(isAgg (ρ.t 3)).run P w=.ok false w
 z3:∀w,(Go.sizeOf (ρ.t 3)).run P w=.ok 1 w
 t4:P.underlying (ρ.t 4)=some TypeDesc.bool
 a4:∀w,(isAgg (ρ.t 4)).run P w=.ok false w
 z4:∀w,(Go.sizeOf (ρ.t 4)).run P w=.ok 1 w
 t24:P.underlying (ρ.t 24)=some (TypeDesc.slice (ρ.t 9))
 a24:∀w,(isAgg (ρ.t 24)).run P w=.ok false w
 z24:∀w,(Go.sizeOf (ρ.t 24)).run P w=.ok 1 w
 z9:∀w,(Go.sizeOf (ρ.t 9)).run P w=.ok e w
 el:F8 P (ρ.t 24) e=true
 gr:NB P (ρ.t 9)=true
 zo:ALv P (ρ.t 9)=true
theorem bD{P:Program}{ops:Array Oper}{o:Oper}{a:Act}{w:World}{K:Act->World->Prop}{Q:Exit->Act->World->Prop}{E:Prop}
 (g:o.guard=none) (s x:Operand) (t:TypeId) (c:o.op=Op.call { callee:=Callee.builtin Builtin.append,args:=#[s,x],argTypes:=#[t,t]}) (vs vx:Value) (j:a.eval s=vs) (y:a.eval x=vx) {e:Value} {w':World}
 (h:(Bh #[t,t] o.type #[vs,vx]).run P w=.ok e w') (hK:K (a.put o.dst e) w') :
 if Region.wanted o (yielded ops a.tmps)=true then Oper.wp P o a w K Q else E:=by
 have q:Region.wanted o (yielded ops a.tmps)=true:=by simp[Region.wanted,g]
 rw[AW q];unfold Oper.wp;simp[execOp,c,resolve,invoke,builtin,j,y,h,Result.andThen];exact hK
theorem pH{t ty el:TypeId}{ti:TypeInfo}{z:Value}{b o m dc e:Nat}{cur:Array Value}{E:TypeId}(O:P.underlying t=some (.slice el))(hi:P.info? el=some ti)(Q:ti.zero=some z)(L:z.cells.size=e)
 (B:z.cells.all (·.oneCell')=true) (S:0<m) (J:Fb w b cur E e) (G:o+m*e<=cur.size) :
 ∃y:List Value,y.length=m*e/\(Builtin.clear_ #[t] ty #[.slice (some ⟨b,o,none⟩) m dc]).run P w=.ok (.tuple #[]) (w.setRow b (cur.toList.take o++y++cur.toList.drop (o+y.length)).toArray):=by
 have c:(A4 z.cells m).toList.length=m*e:=by simp[A4,L]
 refine⟨(A4 z.cells m).toList,c,?_⟩;have g:∀v∈(A4 z.cells m).toList,v.oneCell'=true:=by
  intro v h;rw[Array.all_eq_true_iff_forall_mem]at B;simp only[A4]at h;simp at h;obtain⟨l,H,h⟩:=h;have I:0<z.cells.size:=by rcases Nat.eq_zero_or_pos z.cells.size with j|j;rw[j]at H;simp at H;exact j
  have:=Em l I;exact B v (by grind)
 have a:=Fp (P:=P) (o:=o) J (vs:=(A4 z.cells m).toList) (by omega) g;obtain⟨k,rfl⟩:∃k,m=k+1:=⟨m-1,by omega⟩;unfold Builtin.clear_;simp only[A1,BS,AN];have q:(zeroValue el).run P w=.ok z w:=by simp[zeroValue,typeInfo,hi,Q,go_sem]
 generalize A4=Z at a ⊢;generalize Value.cells=F at a ⊢;simp[run_underlying O,q,a,go_sem]
set_option maxHeartbeats 4000000 in
set_option maxRecDepth 1000000 in
theorem APz{e fi n c b off i j:Nat}(L:pS P ρ fi e)(y:i<j)(I:j<=n)(E:n<=c){A:Addr}(hA:(if c=j then (some (⟨b,off,none⟩:Addr)) else some ⟨b,off+j*e,none⟩)=some A){v:Value}{W1 W2:World}
 (a:∀ty,(Bh #[(ρ.t 24),(ρ.t 24)] ty #[.slice (some ⟨b,off,none⟩) i c,.slice (some A) (n-j) (c-j)]).run P w.drew=.ok (.slice (some ⟨b,off,none⟩) (i+(n-j)) c) W1)
 (h:∀ty,(Builtin.clear_ #[(ρ.t 24)] ty #[.slice (some ⟨b,off+(i+(n-j))*e,none⟩) (n-(i+(n-j))) (c-(i+(n-j)))]).run P W1=.ok v W2) :
 Calls P fi #[.slice (some ⟨b,off,none⟩) n c,.int .i64 i,.int .i64 j] w λe w'=>e=.returned (.slice (some ⟨b,off,none⟩) (i+(n-j)) c)/\w'=W2:=by
 have mixed:=L.mixed;have t0:=L.t0;have a0:=L.a0;have z0:=L.z0;have t3:=L.t3;have a3:=L.a3;have z3:=L.z3;have t4:=L.t4;have a4:=L.a4;have z4:=L.z4;have t24:=L.t24;have a24:=L.a24;have z24:=L.z24;have z9:=L.z9;have J:=run_underlying L.t3;have O:=run_underlying L.t4;have H:=run_underlying L.t24;have G:¬i=j:=by omega
 have q:i<=c:=by omega
 have B:j<=c:=by omega
 have g:¬(c=i+(n-j)):=by omega
 obtain⟨nm,_,F24⟩:=L.f24
 go_enter F24,Body2.n24_ntmps ρ
 go_wp2_with fail
 go_region_law_o (refine bD rfl (.tmp 22) (.tmp 25) (ρ.t 24) rfl _ _ (by simp[Act.eval,Act.put]) (by simp[Act.eval,Act.put]) (a _) ?_)
 go_wp2
 go_ret
 exact⟨rfl,rfl⟩
theorem AZF{A:Nat->Nat->List Md->Prop}{R:Nat->Blk}{G:Nat->Nat->Blk}{U:Nat->List Value}{us:List Value}{vs:List V}{sh:Sh}{cs:List T}{outs:List (List T)}{fi e:Nat}(L:pS P ρ fi e)
 (hA:M6 A P w R G U [.o,.v,.v] vs us) (S:U7 (2*e+1) vs sh cs outs) :
 Calls P fi us.toArray w λe w'=>∃v Z D,e=.returned v/\ot w w' R G U [.o,.v,.v] us sh cs outs v Z D:=by
 unfold U7 at S
 replace S:=S.2
 rw[AT (by omega),show (2*e+1) / 2=e by omega]at S;obtain⟨xs,i,j,rfl,hfx,hi0,hij,hjn,rfl,rfl,rfl⟩:=S;obtain⟨u0,u1,u2,rfl⟩:∃u0 u1 u2,us=[u0,u1,u2]:=by
  have:=hA.mb
  match us,this with
  | [a,b,c],_=>exact⟨a,b,c,rfl⟩
 have h0:=hA.arg 0 _ _ _ rfl rfl rfl;have X:=hA.arg 1 _ _ _ rfl rfl rfl;have h2:=hA.arg 2 _ _ _ rfl rfl rfl;obtain⟨q0,⟨l0,o0⟩,_⟩:=h0;obtain⟨q1,⟨l1,o1⟩,_⟩:=X;obtain⟨q2,⟨l2,o2⟩,_⟩:=h2;obtain⟨z0,y,hO⟩:=o0 0 _ rfl;obtain⟨z1,hz1,hV1⟩:=o1 0 _ rfl;obtain⟨z2,hz2,hV2⟩:=o2 0 _ rfl;have e0:u0=z0:=by
  rw[q0];match hU:U 0,l0,y with
  | [a],_,y=>simpa[mkV] using y
 have e1:u1=z1:=by
  rw[q1];match hU:U 1,l1,hz1 with
  | [a],_,y=>simpa[mkV] using y
 have e2:u2=z2:=by
  rw[q2];match hU:U 2,l2,hz2 with
  | [a],_,y=>simpa[mkV] using y
 subst e0 e1 e2;have hi:u1=.int .i64 ((i.toNat:Nat):Int):=by
  cases hV1 with
  |sc h=>rw[show u1=_ from h];congr 1;omega
 have O:u2=.int .i64 ((j.toNat:Nat):Int):=by
  cases hV2 with
  |sc h=>rw[show u2=_ from h];congr 1;omega
 subst hi O;obtain⟨el,ti,ht,H,hts,htb,hpos⟩:=G9 L.el;have hel:el=ρ.t 9:=by
  have:=L.t24;rw[this]at ht;cases ht;rfl
 subst hel;obtain⟨ti',zv,J,hzv,hzs,hb0⟩:=Vx L.gr;rw[H]at J;cases J;have hzo:zv.cells.all (·.oneCell')=true:=by
  have:=L.zo;unfold ALv at this;simpa only[H,hzv] using this
 rcases ALC (e:=e) hO rfl (by simp[eOf]) hfx with ⟨_,rfl⟩|⟨b,off,cap,arr,E,c,olds,rfl,Q,hGb,hr,hsz,hX,hXc⟩
 .simp at hjn;omega
 .have hXk:∀k v,olds[k]?=some v->arr[off+k]?=some v:=fF (g:=λk=>arr[off+k]?) hX (λi j x hx=>by rw[<-CV];exact hXc i j x hx);obtain⟨n,hn⟩:∃n,n=xs.length:=⟨_,rfl⟩;obtain⟨p,S⟩:∃p,p=i.toNat:=⟨_,rfl⟩;obtain⟨q,hq⟩:∃q,q=j.toNat:=⟨_,rfl⟩;rw[<-S,<-hq];have hpq:p<q:=by omega
  have hqn:q<=n:=by omega
  have B:olds.length=n*e:=by rw[hX.len,hn]
  have Q:n<=cap:=by omega
  have m1:p*e<=q*e:=An _ (by omega);have m2:q*e<=n*e:=An _ hqn;have m3:n*e<=cap*e:=An _ Q;have m4:(n-q)*e=n*e-q*e:=G7 _ _ _;have m5:(p+(n-q))*e=p*e+(n-q)*e:=Bb _ _ _;have m6:(n-(p+(n-q)))*e=q*e-p*e:=by rw[show n-(p+(n-q))=q-p by omega,G7]
  have hXf:∀(W:World) (lo k:Nat),W.heap[b]?=w.heap[b]?->lo+k<=n->∀(l0 c0:Nat),(BU e k (.slice (some ⟨b,off+lo*e,none⟩) l0 c0)).run P W=.ok ((olds.drop (lo*e)).take (k*e)).toArray W:=by
   intro W lo k hW hlk l0 c0;have hle:(lo+k)*e<=n*e:=An _ hlk;rw[Bb]at hle;refine run_firstCells_some W e k ⟨b,off+lo*e,none⟩ l0 c0 _ (by rw[Aj,BI,B];omega) (λj v O=>?_);rw[G3];rw[CB]at O;split at O
   .rw[Bz]at O;have X:=hXk _ _ O;rw[<-hr.cell]at X;simp only[World.cell?]at X ⊢;rw[hW,CV];exact X
   .cases O
  have hnews:(olds.drop (q*e)).length=(n-q)*e:=by rw[BI,B,m4]
  obtain⟨A,hAd,hsrc⟩:∃A:Addr,(if cap=q then (some (⟨b,off,none⟩:Addr)) else some ⟨b,off+q*e,none⟩)=some A/\O5 P w.drew e (.slice (some A) (n-q) (cap-q)) (n-q) (olds.drop (q*e)):=by
   by_cases hc:cap=q
   .have hz:n-q=0:=by omega
    have hd:olds.drop (q*e)=[]:=As (by rw[B];rw[show n=q by omega];exact Ab _);refine⟨⟨b,off,none⟩,by rw[AW hc],?_,?_,?_⟩
    .intro W;simp[Bd]
    .have:=hXf w.drew 0 0 rfl (by omega) (n-q) (cap-q);rw[hz,hd];simpa[hz] using this
    .have:=hXf w.drew.drew 0 0 rfl (by omega) (n-q) (cap-q);rw[hz,hd];simpa[hz] using this
   .have htk:(olds.drop (q*e)).take ((n-q)*e)=olds.drop (q*e):=BE (by rw[hnews];exact Ab _);refine⟨⟨b,off+q*e,none⟩,by rw[AT hc],?_,?_,?_⟩
    .intro W;simp[Bd]
    .have:=hXf w.drew q (n-q) rfl (by omega) (n-q) (cap-q);rw[htk]at this;exact this
    .have:=hXf w.drew.drew q (n-q) rfl (by omega) (n-q) (cap-q);rw[htk]at this;exact this
  have I:off+p*e+(olds.drop (q*e)).length<=arr.size:=by rw[hnews];omega
  have hfit':off+p*e+(olds.drop (q*e)).length<=arr.toList.length:=by rw[Bg];exact I
  have Y:=λty=>(hsrc.app (u:=ρ.t 24) (ty:=ty) ht H hts ht (.inr ⟨_,rfl⟩)).room (b:=b) (o:=off) (sLen:=p) (sCap:=cap) (by omega) (hr.same (w':=w.drew) rfl) I (λv hv=>hX.one v (C5 hv))
  obtain⟨X1,hX1⟩:∃X1,X1=arr.toList.take (off+p*e)++olds.drop (q*e)++arr.toList.drop (off+p*e+(olds.drop (q*e)).length):=⟨_,rfl⟩;rw[<-hX1]at Y;have hX1l:X1.length=arr.size:=by rw[hX1,GI _ _ _ hfit',Bg]
  have hr1:Fb (w.drew.setRow b X1.toArray) b X1.toArray E e:=(hr.same (w':=w.drew) rfl).set (by rw[A1,hX1l]);obtain⟨zs,hzl,hcl0⟩:=pH (P:=P) (t:=ρ.t 24) (ty:=0) (o:=off+(p+(n-q))*e) (m:=n-(p+(n-q))) (dc:=cap-(p+(n-q))) ht H hzv (hzs.trans hts) hzo (by omega) hr1 (by rw[A1,hX1l];omega);have hcl:∀ty,(Builtin.clear_ #[(ρ.t 24)] ty #[.slice (some ⟨b,off+(p+(n-q))*e,none⟩) (n-(p+(n-q))) (cap-(p+(n-q)))]).run P (w.drew.setRow b X1.toArray)=.ok (.tuple #[]) ((w.drew.setRow b X1.toArray).setRow b (X1.take (off+(p+(n-q))*e)++zs++X1.drop (off+(p+(n-q))*e+zs.length)).toArray):=λty=>hcl0
  have hfit2:off+(p+(n-q))*e+zs.length<=X1.length:=by rw[hX1l,hzl];omega
  rw[<-hn];refine(APz L hpq hqn Q hAd Y hcl).mono ?_;rintro _ w' ⟨rfl,rfl⟩;have hXt:=hX.AYj (n:=p) (by omega);have hXd:=hX.AYR (n:=q) (by omega);have hFin:=hXt.app hXd (by simp);have hlf:(xs.take p++xs.drop q).length=p+(n-q):=by simp;omega
  have htl:(olds.take (p*e)).length=p*e:=by rw[Aj,B];omega
  have hOw:=hFin.own (w':=(w.drew.setRow b X1.toArray).setRow b (X1.take (off+(p+(n-q))*e)++zs++X1.drop (off+(p+(n-q))*e+zs.length)).toArray) (blk:=b) (off:=off) (cap:=cap) (hr1.set (by rw[A1,A1,GI _ _ _ hfit2])) (by rw[hlf];omega)
   (by rw[A1,GI _ _ _ hfit2,hX1l];exact hsz) (by
    intro k v hk;have hkl:=(AP.1 hk).1;rw[AH,htl,hnews]at hkl;rw[BS,R7 _ _ _ hfit2,AT (by omega),hX1,R7 _ _ _ hfit'];by_cases c1:k<p*e
    .rw[BN (by omega),CB,AW c1]at hk;rw[AT (by omega)];simpa using hXk k v hk
    .rw[BH (by omega),htl]at hk;rw[AW (by rw[hnews];omega),<-hk];congr 1;omega) (by
    intro i j x _ h;simp only[ite_self]at h) (by
    intro i j x b _ h;simp only[ite_self]at h)
  rw[hlf]at hOw;obtain⟨Z,D,hB⟩:=mQ (w:=w) (R:=R) (G:=G) (U:=U) (us:=[.slice (some ⟨b,off,none⟩) n cap,.int .i64 ((p:Nat):Int),.int .i64 ((q:Nat):Int)]) (hOw.congr (S':=λb'=>b'=b) (by simp))
   ((Still.drawn _).trans (Still.setRow.trans Still.setRow)) (λb' _ hb=>(setRow_other (w:=w.drew.setRow b X1.toArray) hb).trans (setRow_other (w:=w.drew) hb)) (.inr hGb)
  exact⟨_,Z,D,rfl,hB⟩
def PB(P:Program)(n id:Nat)(ms:List Md):Prop:=PA P n id ms\/(∃ρ e,pS P ρ n e/\id=2*e+1/\ms=[.o,.v,.v])
theorem AMx:P9 (PB P) P where
 there n id ms h:=by
  rcases h with h|⟨ρ,e,L,_,_⟩
  .exact AUS.there n id ms h
  .obtain⟨nm,c,g⟩:=L.f24;exact⟨_,g,rfl,c⟩
 ct n id ms vs sh cs outs h a w R G U us hA:=by
  rcases h with (⟨ρ,e,L,rfl,rfl⟩|⟨rfl,_⟩)|⟨ρ,e,L,rfl,rfl⟩
  .exact ATb L hA a
  .exact(a.1 rfl).elim
  .exact AZF L hA a
end
end Lv
