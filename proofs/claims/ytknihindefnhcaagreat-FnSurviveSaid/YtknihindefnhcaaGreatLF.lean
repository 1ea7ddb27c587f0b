/- The light machine is right about the program's code. -/
import Derived.Test.YtknihindefnhcaaGreatLvC
import Derived.Shelf.SlGeneric
import Derived.Shelf.Spec.SlicesInsertGrow
import Derived.Deep.RegionLaw
set_option linter.all false
open Array renaming getElem?_append_left->DL,getElem?_toList->DS,length_toList->Bi,size_append->Ea,size_push->I2
open Go.Builtin renaming append_->Bj,copy_->Cw,firstCells->BX,lenOf->Bd,nextslicecap->Cz,zeroCells->BA
open List renaming append_assoc->BF,drop_eq_nil_of_le->A9,getElem?_append_left->BS,getElem?_append_right->BN,getElem?_cons_zero->AN,getElem?_drop->Bw,getElem?_eq_getElem->AU,getElem?_eq_some_iff->AO,getElem?_take->CE,getElem?_toArray->BU,length_append->AH,length_drop->BD,length_nil->AT,length_take->Ag,mem_of_mem_drop->DG,size_toArray->A7,take_of_length_le->BH
open Nat renaming add_assoc->CW,add_mul->Bc,le_refl->Aj,min_eq_left->EO,mod_lt->FB,mul_le_mul_right->Ap,sub_mul->HZ,zero_add->A1
open Option.some renaming injEq->AE
namespace Lv
open Go Go.Proofs Go.Shelf Go.RowKit Go.Lib
section
variable{P:Program}{d:Ren}{w:World}
structure db(P:Program)(d:Ren)(n e:Nat):Prop where
 mixed:P.follows .mixedOrders=true
 f22:Bears P n (Body2.n22 d)
 ov:∀(args:Array Value) (w:World),(callFunc (d.f 29) args).run P w=((Extern.SlicesOverlaps.overlaps #[(d.t 24),(d.t 24)] #[(d.t 4)] args).run P w).andThen λv w'=>.ok (.value v) w'
 t3:P.underlying (d.t 3)=some (TypeDesc.int IntKind.i64)
 a3:∀w,(isAgg (d.t 3)).run P w=.ok false w
 z3:∀w,(Go.sizeOf (d.t 3)).run P w=.ok 1 w
 t4:P.underlying (d.t 4)=some TypeDesc.bool
 a4:∀w,(isAgg (d.t 4)).run P w=.ok false w
 t24:P.underlying (d.t 24)=some (TypeDesc.slice (d.t 9))
 a24:∀w,(isAgg (d.t 24)).run P w=.ok false w
 z9:∀w,(Go.sizeOf (d.t 9)).run P w=.ok e w
 el:GZ P (d.t 24) e=true
 gr:OO P (d.t 9)=true
 two:2<=e
theorem run_copy_row{t u ty el:TypeId}{ti:TypeInfo}{e b o dl dc m k:Nat}{x:Value}{vs:List Value}{cur:Array Value}{E:TypeId}{q:Nat}(J:P.underlying t=some (.slice el))(hi:P.info? el=some ti)(I:ti.size=e)
 (G:∀w',(Bd x).run P w'=.ok m w') (j:(BX e k x).run P w=.ok vs.toArray w) (B:Nat.min m dl=k) (H:F4 w b cur E q) (a:o+vs.length<=cur.size) (y:∀v∈vs,v.oneCell'=true) :
 (Cw #[t,u] ty #[.slice (some ⟨b,o,none⟩) dl dc,x]).run P w=.ok (goInt k) (w.setRow b (cur.toList.take o++vs++cur.toList.drop (o+vs.length)).toArray):=by have h:=GI (P:=P) (o:=o) H a y;have g:=IA (P:=P) (w:=w) hi;rw[I]at g;have c:=G w;simp only[Cw,A7,List.length_cons,AT,A1,Nat.reduceAdd,BU,AN,List.getElem?_cons_succ];generalize Bd=L at c ⊢;generalize BX=FC at j ⊢;simp[run_underlying J,c,B,g,j,h,goInt,go_sem]
set_option maxHeartbeats 4000000 in
set_option maxRecDepth 100000 in
theorem yW{e fi n c m vc vb voff:Nat}{base:Option Addr}(L:db P d fi e)(E:0<m)(j:n<=c){v:Value}{w':World}(h:base=none->n=0/\c=0)
 (g:∀ty,(Bj #[(d.t 24),(d.t 24)] ty #[.slice base n c,.slice (some ⟨vb,voff,none⟩) m vc]).run P w=.ok v w') :
 Calls P fi #[.slice base n c,.int .i64 n,.slice (some ⟨vb,voff,none⟩) m vc] w λe B=>e=.returned v/\B=w':=by
 have t3:=L.t3;have a3:=L.a3;have z3:=L.z3;have t4:=L.t4;have a4:=L.a4;have t24:=L.t24;have a24:=L.a24;have z9:=L.z9;have G:=run_underlying L.t3;have H:=run_underlying L.t4;have y:=run_underlying L.t24;have mixed:=L.mixed;have q:¬((m:Int)=0):=by omega
 obtain⟨nm,_,F22⟩:=L.f22
 go_enter F22,Body2.n22_ntmps d
 cases base with
 |none=>
  obtain⟨rfl,rfl⟩:=h rfl
  go_wp2_with (at_builtin;refine Lib.wpList_append_run _ rfl _ _ _ _ rfl _ _ rfl rfl _ _ (g _) ?_)
  go_ret
  exact⟨rfl,rfl⟩
 |some a=>
  obtain⟨ab,ao,asp⟩:=a
  go_wp2_with (at_builtin;refine Lib.wpList_append_run _ rfl _ _ _ _ rfl _ _ rfl rfl _ _ (g _) ?_)
  all_goals (go_ret;exact⟨rfl,rfl⟩)
theorem aJ(w:World)(tS tR e:TypeId)(J:P.underlying tS=some (.slice e))(size:Nat)(L:∀w,(Go.sizeOf e).run P w=.ok size w)
 (a b:Addr) (la ca lb cb:Nat) (q:a.block≠b.block) (tA tB:TypeId) (kA kB:Nat)
 (G:w.shape? a.block=some (tA,kA)) (H:w.shape? b.block=some (tB,kB)) (hkA:kA≠0) (c:∀o,w.frozen? { block:=b.block,off:=o,spot:=none}=false) (O:b.spot=none) :
 (Extern.SlicesOverlaps.overlaps #[tS,tS] #[tR] #[.slice (some a) la ca,.slice (some b) lb cb]).run P w=.ok (.bool false) w:=by
 have E:(a.block != b.block)=true:=by simpa using q
 have j:(a.block==b.block)=false:=by simpa using q
 have g:w.frozen? b=false:=by
  have:=c b.off;rw[<-O]at this;exact this
 have h:w.frozen? { block:=b.block,off:=kB}=false:=c kB;change Sem.run P (α:=Value) (do
  let some t:=(#[tS,tS]:Array TypeId)[0]?|stuck "slices.overlaps: no parameter types"
  let .slice elem <-underlying t|stuck "slices.overlaps: slice type expected"
  let size <-sizeOf elem
  match (some a:Option Addr),(some b:Option Addr) with
  |some a,some b=>
   if la=0\/lb=0\/size=0 then pure (Value.bool false)
   else if a.block != b.block&&(<-frozen a)&&(<-frozen b) then unsupported .addressObserved
   else do
    if a.block != b.block then do
     noView a;noView b
     if <-mayBeOne a b then return Value.bool ((<-choose (.extern "sameAddr.stringBytes" 2))==1)
    pure (Value.bool (a.block==b.block&&a.off<b.off+lb*size&&b.off<a.off+la*size))
  |_,_=>pure (Value.bool false)) w=_
 by_cases I:la=0\/lb=0\/size=0
 .simp[run_underlying J,L,I]
 .cases kA with
  |zero=>exact absurd rfl hkA|succ kA=>
   cases y:w.frozen? a<;>cases B:w.frozen? { block:=a.block,off:=kA+1} <;>
    simp[run_underlying J,L,I,E,j,frozen,noView,viewAt,mayBeOne,stringish,shape,Sem.run,G,H,g,h,y,B]
set_option maxHeartbeats 4000000 in
set_option maxRecDepth 100000 in
theorem AL2{e fi n c m vc b off vb voff i:Nat}(L:db P d fi e)(hi:i<n)(Y:0<m)(hroom:n+m<=c)(G:n+m<=9223372036854775807){S X:Value}{W1 W2:World}
 (a:∀lb cb,(Extern.SlicesOverlaps.overlaps #[(d.t 24),(d.t 24)] #[(d.t 4)] #[.slice (some ⟨vb,voff,none⟩) m vc,.slice (some ⟨b,off+(i+m)*e,none⟩) lb cb]).run P w=.ok (.bool false) w)
 (g:∀ty dc sc,(Cw #[(d.t 24),(d.t 24)] ty #[.slice (some ⟨b,off+(i+m)*e,none⟩) (n+m-(i+m)) dc,.slice (some ⟨b,off+i*e,none⟩) (n+m-i) sc]).run P w.drew=.ok S W1)
 (h:∀ty dc,(Cw #[(d.t 24),(d.t 24)] ty #[.slice (some ⟨b,off+i*e,none⟩) (n+m-i) dc,.slice (some ⟨vb,voff,none⟩) m vc]).run P W1=.ok X W2) :
 Calls P fi #[.slice (some ⟨b,off,none⟩) n c,.int .i64 i,.slice (some ⟨vb,voff,none⟩) m vc] w λe w'=>
  e=.returned (.slice (some ⟨b,off,none⟩) (n+m) c)/\w'=W2:=by
 have t3:=L.t3;have a3:=L.a3;have z3:=L.z3;have t4:=L.t4;have a4:=L.a4;have t24:=L.t24;have a24:=L.a24;have z9:=L.z9;have Z:=run_underlying L.t3;have u4:=run_underlying L.t4;have Q:=run_underlying L.t24;have mixed:=L.mixed;have J:¬((m:Int)=0):=by omega
 have O:¬((i:Int)=(n:Int)):=by omega
 obtain⟨nm,_,F22⟩:=L.f22;have a:∀lb cb,(callFunc (d.f 29) #[.slice (some ⟨vb,voff,none⟩) m vc,.slice (some ⟨b,off+(i+m)*e,none⟩) lb cb]).run P w=.ok (.value (.bool false)) w:=λlb cb=>by rw[L.ov,a];rfl
 have I:IntKind.i64.wrap ((i:Int)+(m:Int))=(i:Int)+(m:Int):=by rw[IntKind.wrap_i64];omega
 have j:(0:Int)<=(i:Int)+(m:Int):=by omega
 have E:i<=n:=by omega
 have H:((i:Int)+(m:Int)).toNat=i+m:=by omega
 have q:¬(c=i+m):=by omega
 have y:(i:Int)<=(n:Int)+(m:Int):=by omega
 have B:¬(c=i):=by omega
 go_enter F22,Body2.n22_ntmps d
 go_wp2_with (simp[a])
 go_region_law_o (refine step_copy_runI rfl _ _ (d.t 24) (d.t 24) rfl _ _ (by simp[Act.eval,Act.put]) (by simp[Act.eval,Act.put]) (g _ _ _) ?_)
 go_wp2_with (at_builtin;refine wpList_copy_runI _ rfl _ _ (d.t 24) (d.t 24) rfl _ _ rfl rfl (h _ _) ?_)
 go_ret
 exact⟨rfl,rfl⟩
set_option maxHeartbeats 4000000 in
set_option maxRecDepth 100000 in
theorem ASy{e fi n c m vc b off vb voff i G N:Nat}(L:db P d fi e)(hi:i<n)(Y:0<m)(y:n<=c)(hroom:c<n+m)(B:n+m<=9223372036854775807)(hGn:n+m<=G){S X:Value}{W1 W2 W3:World}
 (a:∀ty,(Bj #[(d.t 24),(d.t 3)] ty #[.slice (some ⟨b,off,none⟩) i c,.int .i64 ((n:Int)+(m:Int)-(i:Int))]).run P w=.ok (.slice (some ⟨N,0,none⟩) (n+m) G) W1)
 (hcpA:∀ty dc,(Cw #[(d.t 24),(d.t 24)] ty #[.slice (some ⟨N,i*e,none⟩) (n+m-i) dc,.slice (some ⟨vb,voff,none⟩) m vc]).run P W1=.ok S W2)
 (hcpB:∀ty dc sc,(Cw #[(d.t 24),(d.t 24)] ty #[.slice (some ⟨N,(i+m)*e,none⟩) (n+m-(i+m)) dc,.slice (some ⟨b,off+i*e,none⟩) (n-i) sc]).run P W2.drew=.ok X W3) :
 Calls P fi #[.slice (some ⟨b,off,none⟩) n c,.int .i64 i,.slice (some ⟨vb,voff,none⟩) m vc] w λe w'=>
  e=.returned (.slice (some ⟨N,0,none⟩) (n+m) G)/\w'=W3:=by
 have t3:=L.t3;have a3:=L.a3;have z3:=L.z3;have t4:=L.t4;have a4:=L.a4;have t24:=L.t24;have a24:=L.a24;have z9:=L.z9;have Z:=run_underlying L.t3;have u4:=run_underlying L.t4;have Q:=run_underlying L.t24;have mixed:=L.mixed;have I:¬((m:Int)=0):=by omega
 have J:¬((i:Int)=(n:Int)):=by omega
 have O:(c:Int)<(n:Int)+(m:Int):=by omega
 have hGi:¬(G=i):=by omega
 have hGim:¬(G=i+m):=by omega
 have j:¬(c=i):=by omega
 have H:IntKind.i64.wrap ((i:Int)+(m:Int))=(i:Int)+(m:Int):=by rw[IntKind.wrap_i64];omega
 have g:(0:Int)<=(i:Int)+(m:Int):=by omega
 have q:i<=n:=by omega
 have E:((i:Int)+(m:Int)).toNat=i+m:=by omega
 have h:(i:Int)<=(n:Int):=by omega
 obtain⟨nm,_,F22⟩:=L.f22
 go_enter F22,Body2.n22_ntmps d
 go_wp2_with (first
  |(at_builtin;refine Lib.wpList_append_run _ rfl _ _ _ _ rfl _ _ rfl rfl _ _ (a _) ?_)|(at_builtin;refine wpList_copy_runI _ rfl _ _ (d.t 24) (d.t 24) rfl _ _ rfl rfl (hcpA _ _) ?_))
 go_region_law_o (refine step_copy_runI rfl _ _ (d.t 24) (d.t 24) rfl _ _ (by simp[Act.eval,Act.put]) (by simp[Act.eval,Act.put]) (hcpB _ _ _) ?_)
 go_wp2
 go_ret
 exact⟨rfl,rfl⟩
end
section
variable{P:Program}{d:Ren}{w:World}
theorem CZ.AYO{w:World}{e n:Nat}{xs}{c:Nat->Nat->Value}{f:Nat->Nat->Blk}{vs:List Value}(h:CZ w e xs c f vs)(q:n<=xs.length):CZ w e (xs.take n) c f (vs.take (n*e)):=by have B:n*e<=xs.length*e:=Ap _ q;refine⟨by rw[Ag,Ag,h.len,EO q,EO B],λrow E=>h.row row (List.mem_of_mem_take E),?_,?_⟩;intro i j x a;obtain⟨hi,a⟩:=Pd a;obtain⟨J,y⟩:=h.cell i j x a;have L:=Qb a h.row;refine⟨?_,y⟩;have:(i+1)*e<=n*e:=Ap _ hi;grind[Nat.add_mul];intro i j x G H I a g;exact h.dis i j x G H I (Pd a).2 (Pd g).2
theorem CZ.AX2{w:World}{e n:Nat}{xs}{c:Nat->Nat->Value}{f:Nat->Nat->Blk}{vs:List Value}(h:CZ w e xs c f vs)(J:n<=xs.length):CZ w e (xs.drop n) (λi j=>c (n+i) j) (λi j=>f (n+i) j) (vs.drop (n*e)):=by refine⟨by rw[BD,BD,h.len,HZ],λrow y=>h.row row (DG y),?_,?_⟩;intro i j x g;obtain⟨G,H⟩:=h.cell _ j x (RY g);grind[Nat.add_mul];intro i j x L B E g q a;exact h.dis _ j x _ B E (RY g) (RY q) (by intro I;exact a (by omega))
theorem AS0{B:Blk}{e:Nat}{ys:List (List T)}{v:Value}(hV:View w B (.sl e ys) v)(Q:Ho ys=true)(g:ys≠[]) :
 ∃vb voff vc c vs,v=.slice (some ⟨vb,voff,none⟩) ys.length vc/\ys.length<=vc/\B vb/\CZ w e ys c (λ_ _ _=>False) vs/\(∀i j x,at2 ys i j=some x->w.cell? ⟨vb,voff+i*e+j,none⟩=some (c i j)):=by
 cases hV with
 |sc h=>exact h.elim|nl=>exact(g rfl).elim|@sl _ _ a len cap c H I J L q O=>subst H;obtain⟨E,y⟩:=L g;obtain⟨blk,off,sp⟩:=a;dsimp at E y q;subst E;exact⟨blk,off,cap,c,_,rfl,I,y,CZ.read J (λi j x G=>PV (O i j x G) (TC Q G)) (by simp),q⟩
theorem AKV{S:Blk}{e:Nat}{x:T}{xs}{v:Value}(hO:Own w x v S)(a:content x=some xs)(q:eOf e x=true)(Q:Ho xs=true) :
 (v=.slice none 0 0/\xs=[])\/∃b off cap arr E c vs,v=.slice (some ⟨b,off,none⟩) xs.length cap/\xs.length<=cap/\S b/\F4 w b arr E e/\off+cap*e<=arr.size/\CZ w e xs c (λ_ _ _=>False) vs /\
  (∀i j x,at2 xs i j=some x->arr[off+i*e+j]?=some (c i j)):=by
 cases hO with
 |sc h _ _=>cases x<;>simp[content]at a;subst a;exact .inl ⟨h,rfl⟩;exact h.elim
 |nl=>simp only[content,AE]at a;exact .inl ⟨rfl,a.symm⟩|mp=>simp[content]at a|@sl _ _ blk off len cap arr E _ c f B G H I J L O X Y g=>simp[content,AE]at a;simp[eOf,beq_iff_eq]at q;subst a q B;exact .inr ⟨blk,off,cap,arr,E,c,_,rfl,G,(g _).2 (.inl rfl),I,J,CZ.read H (λi j x y=>PV (O i j x y).view (TC Q y)) (by simp),L⟩
theorem iN{e:Nat}{xs:List (List T)}{c:Nat->Nat->Value}{f:Nat->Nat->Blk}{vs:List Value}{g:Nat->Option Value}(h:CZ w e xs c f vs)(y:∀i j x,at2 xs i j=some x->g (i*e+j)=some (c i j)):∀k v,vs[k]?=some v->g k=some v:=by
 intro k v B;have a:k<vs.length:=(AO.1 B).1;rw[h.len]at a;have q:0<e:=by grind[Nat.eq_zero_or_pos]
 obtain⟨x,E⟩:=Pc h.row ((Nat.div_lt_iff_lt_mul q).2 a) (FB k q);obtain⟨G,_⟩:=h.cell _ _ _ E;grind[Nat.mul_comm,Nat.div_add_mod]
theorem Ta(l:List Value) o  vs(h:o+vs.length<=l.length) k :(l.take o++vs++l.drop (o+vs.length))[k]?=if o<=k/\k<o+vs.length then vs[k-o]? else l[k]?:=by rw[<-Lu l o vs h,Gu l o vs h]
theorem GU(l:List Value) o  vs(h:o+vs.length<=l.length):(l.take o++vs++l.drop (o+vs.length)).length=l.length:=by simp;omega
theorem nC{R:Nat->Blk}{G:Nat->Nat->Blk}{U:Nat->List Value}{us:List Value}{w':World}{e N:Nat}{zs:List (List T)}{v:Value}(hO:Own w' (.sl e zs) v (λb=>b=N))(g:Still w w')
 (j:∀b,b<w.heap.size->b≠N->w'.heap[b]?=w.heap[b]?) (hN:w.heap.size<=N\/G 0 0 N) :
 ∃Z D,pW w w' R G U [.o,.v,.v] us .one [.sl e zs] [] v Z D:=by
 refine⟨λ_=>False,λp c b=>p=0/\c=0/\b=N,g,?_,λ_ h=>h.elim,?_,?_,?_,λ_ _ _ _ h=>h,?_⟩;grind;refine⟨[v],rfl,rfl,?_⟩;intro c x a;match c,a with
 |0,a=>cases a;exact⟨v,rfl,hO.congr λb=>by simp⟩
 |c+1,a=>simp at a
 rfl;grind;rintro p c b ⟨rfl,rfl,rfl⟩;rcases hN with h|h;exact .inl h;exact .inr ⟨0,0,.o,rfl,rfl,h⟩
theorem TH{need old by_}(h:old<need)(c:need<=lim)(a:by_<=65536):Cz need old*by_<=281474976710656:=by
 have e:=nextslicecap_le h;have g:need<=268435456:=c;calc Cz need old*by_<=(2*268435456)*65536:=Nat.mul_le_mul (by omega) a
  _<=281474976710656:=by omega
theorem ASx{A:Nat->Nat->List Md->Prop}{R:Nat->Blk}{G:Nat->Nat->Blk}{U:Nat->List Value}{us:List Value}{vs:List V}{sh:Sh}{cs:List T}{outs:List (List T)}{fi e:Nat}(L:db P d fi e)
 (hA:OH A P w R G U [.o,.v,.v] vs us) (hp:WY (2*e) vs sh cs outs) :
 Calls P fi us.toArray w λe w'=>∃v Z D,e=.returned v/\pW w w' R G U [.o,.v,.v] us sh cs outs v Z D:=by
 unfold WY at hp;replace hp:=hp.2;rw[AY (by omega),show 2*e / 2=e by omega]at hp;obtain⟨x,xs,y,ys,i,rfl,hcx,hex,hcy,hey,hfx,hfy,hi0,X,hne,hlim,rfl,rfl,rfl⟩:=hp;obtain⟨u0,u1,u2,rfl⟩:∃u0 u1 u2,us=[u0,u1,u2]:=by
  have:=hA.nJ
  match us,this with
  | [a,b,c],_=>exact⟨a,b,c,rfl⟩
 have h0:=hA.arg 0 _ _ _ rfl rfl rfl;have h1:=hA.arg 1 _ _ _ rfl rfl rfl;have h2:=hA.arg 2 _ _ _ rfl rfl rfl;obtain⟨q0,⟨l0,o0⟩,_⟩:=h0;obtain⟨q1,⟨l1,o1⟩,_⟩:=h1;obtain⟨q2,⟨l2,o2⟩,_⟩:=h2;obtain⟨z0,S,hO⟩:=o0 0 _ rfl;obtain⟨z1,hz1,hV1⟩:=o1 0 _ rfl;obtain⟨z2,hz2,hV⟩:=o2 0 _ rfl;have e0:u0=z0:=by
  rw[q0];match hU:U 0,l0,S with
  | [a],_,S=>simpa[mkV] using S
 have e1:u1=z1:=by
  rw[q1];match hU:U 1,l1,hz1 with
  | [a],_,S=>simpa[mkV] using S
 have e2:u2=z2:=by
  rw[q2];match hU:U 2,l2,hz2 with
  | [a],_,S=>simpa[mkV] using S
 subst e0 e1 e2;have hi:u1=.int .i64 ((i.toNat:Nat):Int):=by
  cases hV1 with
  |sc h=>rw[show u1=_ from h];congr 1;omega
 subst hi;obtain⟨el,ti,Q,H,B,htb,hpos⟩:=Hf L.el;have hel:el=d.t 9:=by
  have:=L.t24;rw[this]at Q;cases Q;rfl
 subst hel;obtain⟨ti',zv,hti',hzv,hzs,hb0⟩:=XN L.gr;rw[H]at hti';cases hti';have hy:y=.sl e ys:=by
  cases y with
  |sl e' ys'=>simp only[content,AE]at hcy;simp only[eOf,beq_iff_eq]at hey;rw[hcy,hey]
  |nil=>simp only[content,AE]at hcy;exact absurd hcy.symm hne|_=>simp[content]at hcy
 subst hy;obtain⟨vb,voff,vc,c',news,rfl,hvc,hRb,hY,hYc⟩:=AS0 hV hfy hne;have hvlt:=hA.rlt 2 vb hRb;have hm:0<ys.length:=List.length_pos_iff.2 hne;have hlim':xs.length+ys.length<=268435456:=hlim;have hYk:∀k v,news[k]?=some v->w.cell? ⟨vb,voff+k,none⟩=some v:=iN (g:=λk=>w.cell? ⟨vb,voff+k,none⟩) hY (λi j x hx=>by rw[<-CW];exact hYc i j x hx);have hYsrc:QU P w e (.slice (some ⟨vb,voff,none⟩) ys.length vc) ys.length news:=PU hY hYc;have hYapp:Sq P w (d.t 24) (d.t 24) (d.t 24) (d.t 9) e (.slice (some ⟨vb,voff,none⟩) ys.length vc) ys.length news:=hYsrc.app Q H B Q (.inr ⟨_,rfl⟩);have hYf:∀W:World,W.heap[vb]?=w.heap[vb]?->(BX e ys.length (.slice (some ⟨vb,voff,none⟩) ys.length vc)).run P W=.ok news.toArray W:=λW hW=>
  run_firstCells_some W e ys.length ⟨vb,voff,none⟩ ys.length vc news (by rw[hY.len]) (λk v q=>by rw[HV];have:=hYk k v q;simp only[World.cell?]at this ⊢;rw[hW];exact this)
 have hYl:∀W:World,(Bd (.slice (some ⟨vb,voff,none⟩) ys.length vc)).run P W=.ok ys.length W:=λW=>by simp[Bd]
 rcases AKV hO hcx hex hfx with ⟨rfl,rfl⟩|⟨b,off,cap,arr,E,c,olds,rfl,hnc,hGb,hr,hsz,hX,hXc⟩
 ·
  have hi':i.toNat=0:=by simpa using X
  rw[hi'];have hold:QU P w e (.slice none 0 0) 0 []:=ADe;have J:=λty=>(hYsrc.app (u:=d.t 24) (ty:=ty) Q H B Q (.inr ⟨_,rfl⟩)).grow H hzv B hold (by omega) hb0 (TH (by omega) (by simp only[AT]at hlim';show 0+ys.length<=268435456;omega) htb) (by simp only[AT]at hlim';show 0+ys.length<=268435456;omega);simp only[A1]at J;refine(yW (n:=0) L hm (Aj _) (λ_=>⟨rfl,rfl⟩) J).mono ?_;rintro _ w' ⟨rfl,rfl⟩;have hge:=grownCap_ge w ys.length 0 (d.t 9);have hOw:=hY.own (w':=Hh w (d.t 9) (([]:List Value).toArray++news.toArray++BA zv.cells (grownCap w ys.length 0 (d.t 9)-ys.length))) (blk:=w.heap.size) (off:=0) (cap:=grownCap w ys.length 0 (d.t 9)) (.of MW) (by omega)
   (by simp only[Ea,A7,AT,KS,hY.len,hzs,B,A1];rw[<-Bc];exact Ap _ (by omega))
   (by
    intro k v q;rw[A1,DL];simpa using q
    .have:=(AO.1 q).1;simpa using this) (λ_ _ _ _ h=>h) (λ_ _ _ _ _ h=>h.elim)
  obtain⟨Z,D,hB⟩:=nC (w:=w) (R:=R) (G:=G) (U:=U) (us:=[.slice none 0 0,.int .i64 ((i.toNat:Nat):Int),.slice (some ⟨vb,voff,none⟩) ys.length vc]) (hOw.congr (S':=λb=>b=w.heap.size) (by simp)) (.old (by show w.heap.size<=(w.heap.push _).size;rw[I2];omega) rfl rfl λb O=>Fe O) (λb O _=>Fe O) (.inl (Aj _));rw[hi']at hB;exact⟨_,Z,D,rfl,by simpa using hB⟩
 have hXk:∀k v,olds[k]?=some v->arr[off+k]?=some v:=iN (g:=λk=>arr[off+k]?) hX (λi j x hx=>by rw[<-CW];exact hXc i j x hx);obtain⟨n,hn⟩:∃n,n=i.toNat:=⟨_,rfl⟩;rw[<-hn]at X ⊢;have Y:=hX.len;have hnl:=hY.len;have hmul:n*e<=xs.length*e:=Ap _ X;have hmulc:xs.length*e<=cap*e:=Ap _ hnc;have hXt:=hX.AYO X;have hXd:=hX.AX2 X;have hFin:=(hXt.app hY (by simp)).app hXd (by simp);have hal:arr.toList.length=arr.size:=Bi;have hag:∀j:Nat,arr.toList[j]?=arr[j]?:=λj=>DS ..;have hlf:(xs.take n++ys++xs.drop n).length=xs.length+ys.length:=by simp;omega
 have htl:(olds.take (n*e)).length=n*e:=by rw[Ag,Y];omega
 have hdl:(olds.drop (n*e)).length=xs.length*e-n*e:=by rw[BD,Y]
 have fin:∀(w':World) (N o C:Nat) (arr':Array Value) (E':TypeId),F4 w' N arr' E' e->xs.length+ys.length<=C->o+C*e<=arr'.size ->
  (∀k v,(olds.take (n*e)++news++olds.drop (n*e))[k]?=some v->arr'[o+k]?=some v)->Still w w'->(∀b,b<w.heap.size->b≠N->w'.heap[b]?=w.heap[b]?)->(w.heap.size<=N\/G 0 0 N) ->
  ∃Z D,pW w w' R G U [.o,.v,.v] [.slice (some ⟨b,off,none⟩) xs.length cap,.int .i64 ((n:Nat):Int),.slice (some ⟨vb,voff,none⟩) ys.length vc] .one [.sl e (xs.take n++ys++xs.drop n)] [] (.slice (some ⟨N,o,none⟩) (xs.length+ys.length) C) Z D:=by
  intro w' N o C arr' E' f1 f2 f3 f4 f5 f6 f7;have hOw:=hFin.own (w':=w') f1 (by rw[hlf];exact f2) f3 f4 (by
   intro i j x _ h;simp only[ite_self]at h) (by
   intro i j x b _ h;simp only[ite_self]at h)
  rw[hlf]at hOw;obtain⟨Z,D,hB⟩:=nC (w:=w) (R:=R) (G:=G) (U:=U) (us:=[.slice (some ⟨b,off,none⟩) xs.length cap,.int .i64 ((n:Nat):Int),.slice (some ⟨vb,voff,none⟩) ys.length vc]) (hOw.congr (S':=λb=>b=N) (by simp)) f5 f6 f7;exact⟨Z,D,hB⟩
 by_cases I:n=xs.length
 ·
  have htk:olds.take (n*e)=olds:=BH (by rw[Y,I];exact Aj _);have hdk:olds.drop (n*e)=[]:=A9 (by rw[Y,I];exact Aj _);rw[htk,hdk,List.append_nil]at fin;by_cases hroom:xs.length+ys.length<=cap;have hmr:(xs.length+ys.length)*e<=cap*e:=Ap _ hroom;rw[Bc]at hmr;have hfit:off+xs.length*e+news.length<=arr.size:=by rw[hnl];omega
  have hfit':off+xs.length*e+news.length<=arr.toList.length:=by rw[Bi];exact hfit
  have J:=λty=>(hYsrc.app (u:=d.t 24) (ty:=ty) Q H B Q (.inr ⟨_,rfl⟩)).room hroom hr hfit hY.one;rw[I];refine(yW (n:=xs.length) L hm hnc (by simp) J).mono ?_;rintro _ w' ⟨rfl,rfl⟩;obtain⟨Z,D,hB⟩:=fin _ b off cap (arr.toList.take (off+xs.length*e)++news++arr.toList.drop (off+xs.length*e+news.length)).toArray E (hr.set (by rw[A7,GU _ _ _ hfit',Bi])) hroom (by rw[A7,GU _ _ _ hfit',Bi];omega) (by intro k v q;rw[BU,Ta _ _ _ hfit'];by_cases hk':k<olds.length;rw[BS hk']at q;rw[Aa (by omega)];simpa using hXk k v q;rw[BN (by omega)]at q;have h2:=(AO.1 q).1;rw[AY (by omega),<-q];congr 1;omega) Still.setRow (λb' _ O=>setRow_other O) (.inr hGb);rw[I]at hB;exact⟨_,Z,D,rfl,hB⟩;have hsrc:QU P w e (.slice (some ⟨b,off,none⟩) xs.length cap) xs.length olds:=PU hX (λi j x hx=>by rw[hr.cell];exact hXc i j x hx);have hge:=grownCap_ge w (xs.length+ys.length) cap (d.t 9);have J:=λty=>(hYsrc.app (u:=d.t 24) (ty:=ty) Q H B Q (.inr ⟨_,rfl⟩)).grow H hzv B hsrc (by omega) hb0 (TH (by omega) hlim htb) hlim;rw[I];refine(yW (n:=xs.length) L hm hnc (by simp) J).mono ?_;rintro _ w' ⟨rfl,rfl⟩;obtain⟨Z,D,hB⟩:=fin (Hh w (d.t 9) (olds.toArray++news.toArray++BA zv.cells (grownCap w (xs.length+ys.length) cap (d.t 9)-(xs.length+ys.length)))) w.heap.size 0 _ _ (d.t 9) (.of MW) hge (by
   simp only[Ea,A7,KS,Y,hnl,hzs,B,A1];rw[<-Bc,<-Bc];exact Ap _ (by omega)) (by
   intro k v q;rw[A1,DL];simpa using q
   .have:=(AO.1 q).1;simpa using this) (.old (by show w.heap.size<=(w.heap.push _).size;rw[I2];omega) rfl rfl λb O=>Fe O) (λb O _=>Fe O) (.inl (Aj _))
  rw[I]at hB;exact⟨_,Z,D,rfl,hB⟩
 have hlt:n<xs.length:=by omega
 have hXf:∀(W:World) (lo k:Nat),W.heap[b]?=w.heap[b]?->lo+k<=xs.length->∀(l0 c0:Nat),(BX e k (.slice (some ⟨b,off+lo*e,none⟩) l0 c0)).run P W=.ok ((olds.drop (lo*e)).take (k*e)).toArray W:=by intro W lo k hW hlk l0 c0;have hle:(lo+k)*e<=xs.length*e:=Ap _ hlk;rw[Bc]at hle;refine run_firstCells_some W e k ⟨b,off+lo*e,none⟩ l0 c0 _ (by rw[Ag,BD,Y];omega) (λj v hj=>?_);rw[HV];rw[CE]at hj;split at hj;rw[Bw]at hj;have h1:=hXk _ _ hj;rw[<-hr.cell]at h1;simp only[World.cell?]at h1 ⊢;rw[hW,CW];exact h1;cases hj
 have hvb:vb≠b:=λhh=>hA.rg 2 0 0 vb hRb (by rw[hh];exact hGb);have htk:∀k,k=xs.length-n->(olds.drop (n*e)).take (k*e)=olds.drop (n*e):=by rintro k rfl;exact BH (by rw[hdl,HZ];exact Aj _)
 have hadd:(n+ys.length)*e=n*e+ys.length*e:=Bc _ _ _;have hdone:∀v∈olds.drop (n*e),v.oneCell'=true:=λv hv=>hX.one v (DG hv);have hsub:(xs.length-n)*e=xs.length*e-n*e:=HZ _ _ _;have hmin1:Nat.min ys.length (xs.length+ys.length-n)=ys.length:=EO (by omega);have hget:∀(arr0:Array Value) (o:Nat),(∀k,k<n*e->arr0[o+k]?=olds[k]?)->o+(n+ys.length)*e+(xs.length-n)*e<=arr0.size->∀X1:List Value,
  (∀k v,(olds.take (n*e)++news++olds.drop (n*e))[k]?=some v->((if o+n*e<=o+k/\o+k<o+n*e+news.length then news[o+k-(o+n*e)]? else if o+(n+ys.length)*e<=o+k/\o+k<o+(n+ys.length)*e+(olds.drop (n*e)).length then (olds.drop (n*e))[o+k-(o+(n+ys.length)*e)]? else arr0[o+k]?))=some v):=by
  intro arr0 o g1 g2 X1 k v q;by_cases c1:k<n*e;rw[BF,BS (by omega)]at q;rw[CE,AY c1]at q;rw[Aa (by omega),Aa (by omega),g1 k c1,q];by_cases c2:k<n*e+news.length;rw[BF,BN (by omega),BS (by omega),htl]at q;rw[AY (by omega),<-q];congr 1;omega;rw[BN (by rw[AH];omega),AH,htl]at q;have h2:=(AO.1 q).1;rw[Aa (by omega),AY (by omega),<-q];congr 1;omega
 by_cases hroom:xs.length+ys.length<=cap
 ·
  have hmr:(xs.length+ys.length)*e<=cap*e:=Ap _ hroom;rw[Bc]at hmr;have hov:∀lb cb,(Extern.SlicesOverlaps.overlaps #[(d.t 24),(d.t 24)] #[(d.t 4)] #[.slice (some ⟨vb,voff,none⟩) ys.length vc,.slice (some ⟨b,off+(n+ys.length)*e,none⟩) lb cb]).run P w=.ok (.bool false) w:=by
   intro lb cb;have h2:=L.two;have hy0:0<news.length:=by rw[hnl];exact Nat.mul_pos hm hpos
   have hcell:=hYk 0 _ (AU hy0);obtain⟨fr,hb1,hb2⟩:=hr;obtain⟨ca,ce,cf,hv1,hv2⟩:∃ca ce cf,w.heap[vb]?=some (.cells ca ce cf)/\ca.size≠0:=by simp only[World.cell?]at hcell;split at hcell;rename_i ca ce cf hv1;simp only[Option.isSome_none,Bool.false_eq_true,if_false]at hcell;have:=(Array.getElem?_eq_some_iff.1 hcell).1;exact⟨ca,ce,cf,hv1,by omega⟩;cases hcell
   refine aJ w (d.t 24) (d.t 4) (d.t 9) L.t24 e L.z9 ⟨vb,voff,none⟩ ⟨b,off+(n+ys.length)*e,none⟩ _ _ _ _ hvb ce E ca.size arr.size (by simp[World.shape?,hv1]) (by simp[World.shape?,hb1]) hv2 ?_ rfl;intro o;simp only[World.frozen?,hb1];rcases hb2 with hb2|⟨_,hb2⟩;simp[hb2];omega
  have hfit1:off+(n+ys.length)*e+(olds.drop (n*e)).length<=arr.toList.length:=by rw[hdl,hal];omega
  obtain⟨X1,hX1⟩:∃X1,X1=arr.toList.take (off+(n+ys.length)*e)++olds.drop (n*e)++arr.toList.drop (off+(n+ys.length)*e+(olds.drop (n*e)).length):=⟨_,rfl⟩;have hX1l:X1.length=arr.size:=by rw[hX1,GU _ _ _ hfit1,hal]
  have hr0:F4 w.drew b arr E e:=hr.same rfl;have hcp1:∀ty dc sc,(Cw #[(d.t 24),(d.t 24)] ty #[.slice (some ⟨b,off+(n+ys.length)*e,none⟩) (xs.length+ys.length-(n+ys.length)) dc,.slice (some ⟨b,off+n*e,none⟩) (xs.length+ys.length-n) sc]).run P w.drew=.ok (goInt (xs.length-n:Nat)) (w.drew.setRow b X1.toArray):=by intro ty dc sc;rw[hX1];refine run_copy_row (k:=xs.length-n) (m:=xs.length+ys.length-n) Q H B (λW=>by simp[Bd]) (by have:=hXf w.drew n (xs.length-n) rfl (by omega) (xs.length+ys.length-n) sc;rw[htk _ rfl]at this;exact this) ?_ hr0 (by rw[<-hal];exact hfit1) hdone;show min (xs.length+ys.length-n) (xs.length+ys.length-(n+ys.length))=_;omega
  have hr1:F4 (w.drew.setRow b X1.toArray) b X1.toArray E e:=hr0.set (by simpa using hX1l);have hfit2:off+n*e+news.length<=X1.length:=by rw[hX1l,hnl];omega
  have hcp2:∀ty dc,(Cw #[(d.t 24),(d.t 24)] ty #[.slice (some ⟨b,off+n*e,none⟩) (xs.length+ys.length-n) dc,.slice (some ⟨vb,voff,none⟩) ys.length vc]).run P (w.drew.setRow b X1.toArray)=.ok (goInt (ys.length:Nat)) ((w.drew.setRow b X1.toArray).setRow b (X1.take (off+n*e)++news++X1.drop (off+n*e+news.length)).toArray):=by intro ty dc;exact run_copy_row (k:=ys.length) (m:=ys.length) Q H B (λW=>by simp[Bd]) (hYf _ (setRow_other hvb)) hmin1 hr1 (by simpa using hfit2) hY.one
  refine(AL2 L hlt hm hroom (by omega) hov hcp1 hcp2).mono ?_;rintro _ w' ⟨rfl,rfl⟩;obtain⟨Z,D,hB⟩:=fin ((w.drew.setRow b X1.toArray).setRow b (X1.take (off+n*e)++news++X1.drop (off+n*e+news.length)).toArray) b off cap _ E (hr1.set (by rw[A7,A7,GU _ _ _ hfit2])) hroom (by rw[A7,GU _ _ _ hfit2,hX1l];omega) (by
   intro k v q;rw[BU,Ta _ _ _ hfit2,hX1,Ta _ _ _ hfit1,hag];exact hget arr off (λk q=>by
    have:k<olds.length:=by omega
    rw[AU this];exact hXk k _ (AU this)) (by omega) [] k v q)
   ((Still.drawn _).trans (Still.setRow.trans Still.setRow)) (λb' _ O=>(setRow_other O).trans (setRow_other O)) (.inr hGb)
  exact⟨_,Z,D,rfl,hB⟩
 ·
  have hGe:=grownCap_ge w (xs.length+ys.length) cap (d.t 9);have hk0:((xs.length:Int)+(ys.length:Int)-(n:Int)).toNat=xs.length+ys.length-n:=by omega
  have hk1:n+(xs.length+ys.length-n)=xs.length+ys.length:=by omega
  have hzapp:=λty=>AEw (w:=w) (t:=d.t 24) (u:=d.t 3) (ty:=ty) (k:=.i64) (m:=(xs.length:Int)+(ys.length:Int)-(n:Int)) Q H hzv L.t3 (by omega) (by show _<=((268435456:Nat):Int);omega) htb (by omega) hzs;have hsrc:QU P w e (.slice (some ⟨b,off,none⟩) n cap) n (olds.take (n*e)):=by
   have:=PU (P:=P) (blk:=b) (off:=off) (cap:=cap) hXt (λi j x hx=>by rw[hr.cell];exact hXc i j x (Pd hx).2)
   rwa[Ag,EO X]at this
  have hrz:=λty=>(hzapp ty).grow (ad:=some ⟨b,off,none⟩) (sLen:=n) (sCap:=cap) (olds:=olds.take (n*e)) H hzv rfl (by rw[B];exact hsrc) (by omega) hb0 (TH (by omega) (by rw[hk0,hk1];exact hlim) htb) (by rw[hk0,hk1];exact hlim);rw[hk0,hk1]at hrz;obtain⟨Gc,hGc⟩:∃Gc,Gc=grownCap w (xs.length+ys.length) cap (d.t 9):=⟨_,rfl⟩;rw[<-hGc]at hrz hGe;obtain⟨X0,hX0⟩:∃X0,X0=(olds.take (n*e)).toArray++(BA zv.cells (xs.length+ys.length-n)).toList.toArray++BA zv.cells (Gc-(xs.length+ys.length)):=⟨_,rfl⟩;rw[<-hX0]at hrz;have hX0l:X0.size=Gc*e:=by rw[hX0];simp only[Ea,A7,Bi,KS,htl,hzs,B];rw[<-Bc,<-Bc,hk1];congr 1;omega
  have hX0t:∀k,k<n*e->X0[0+k]?=olds[k]?:=by intro k q;rw[hX0,A1,Array.append_assoc,DL (by simp;omega),BU,CE,AY q]
  have hGm:(xs.length+ys.length)*e<=Gc*e:=Ap _ hGe;rw[Bc]at hGm;have hXl:X0.toList.length=X0.size:=Bi;have hXg:∀j:Nat,X0.toList[j]?=X0[j]?:=λj=>DS ..;have hrN:F4 (Hh w (d.t 9) X0) w.heap.size X0 (d.t 9) e:=.of MW;have hblt:b<w.heap.size:=hr.lt;have hvN:(Hh w (d.t 9) X0).heap[vb]?=w.heap[vb]?:=Fe hvlt;have hfit1:n*e+news.length<=X0.toList.length:=by rw[hXl,hX0l,hnl];omega
  obtain⟨X1,hX1⟩:∃X1,X1=X0.toList.take (n*e)++news++X0.toList.drop (n*e+news.length):=⟨_,rfl⟩;have hX1l:X1.length=Gc*e:=by rw[hX1,GU _ _ _ hfit1,hXl,hX0l]
  have hcpA:∀ty dc,(Cw #[(d.t 24),(d.t 24)] ty #[.slice (some ⟨w.heap.size,n*e,none⟩) (xs.length+ys.length-n) dc,.slice (some ⟨vb,voff,none⟩) ys.length vc]).run P (Hh w (d.t 9) X0)=.ok (goInt (ys.length:Nat)) ((Hh w (d.t 9) X0).setRow w.heap.size X1.toArray):=by intro ty dc;rw[hX1];exact run_copy_row (k:=ys.length) (m:=ys.length) Q H B (λW=>by simp[Bd]) (hYf _ hvN) hmin1 hrN (by rw[<-hXl];exact hfit1) hY.one
  have hr1:F4 ((Hh w (d.t 9) X0).setRow w.heap.size X1.toArray) w.heap.size X1.toArray (d.t 9) e:=hrN.set (by rw[A7,hX1l,hX0l]);have hr2:F4 ((Hh w (d.t 9) X0).setRow w.heap.size X1.toArray).drew w.heap.size X1.toArray (d.t 9) e:=hr1.same rfl;have hfit2:(n+ys.length)*e+(olds.drop (n*e)).length<=X1.length:=by rw[hX1l,hdl];omega
  have hbW:((Hh w (d.t 9) X0).setRow w.heap.size X1.toArray).drew.heap[b]?=w.heap[b]?:=(setRow_other (w:=Hh w (d.t 9) X0) (by omega)).trans (Fe hblt);have hcpB:∀ty dc sc,(Cw #[(d.t 24),(d.t 24)] ty #[.slice (some ⟨w.heap.size,(n+ys.length)*e,none⟩) (xs.length+ys.length-(n+ys.length)) dc,.slice (some ⟨b,off+n*e,none⟩) (xs.length-n) sc]).run P ((Hh w (d.t 9) X0).setRow w.heap.size X1.toArray).drew=.ok (goInt (xs.length-n:Nat)) (((Hh w (d.t 9) X0).setRow w.heap.size X1.toArray).drew.setRow w.heap.size (X1.take ((n+ys.length)*e)++olds.drop (n*e)++X1.drop ((n+ys.length)*e+(olds.drop (n*e)).length)).toArray):=by intro ty dc sc;refine run_copy_row (k:=xs.length-n) (m:=xs.length-n) Q H B (λW=>by simp[Bd]) (by have:=hXf _ n (xs.length-n) hbW (by omega) (xs.length-n) sc;rw[htk _ rfl]at this;exact this) ?_ hr2 (by simpa using hfit2) hdone;show min (xs.length-n) (xs.length+ys.length-(n+ys.length))=_;omega
  refine(ASy L hlt hm hnc (by omega) (by omega) hGe hrz hcpA hcpB).mono ?_;rintro _ w' ⟨rfl,rfl⟩;have hsG:Still w (Hh w (d.t 9) X0):=.old (by show w.heap.size<=(w.heap.push _).size;rw[I2];omega) rfl rfl λb O=>Fe O;obtain⟨Z,D,hB⟩:=fin (((Hh w (d.t 9) X0).setRow w.heap.size X1.toArray).drew.setRow w.heap.size (X1.take ((n+ys.length)*e)++olds.drop (n*e)++X1.drop ((n+ys.length)*e+(olds.drop (n*e)).length)).toArray) w.heap.size 0 Gc _ (d.t 9) (hr2.set (by rw[A7,A7,GU _ _ _ hfit2])) hGe (by rw[A7,GU _ _ _ hfit2,hX1l];omega) (by
   intro k v q;have:=hget X0 0 hX0t (by rw[hX0l];omega) [] k v q;simp only[A1]at this ⊢;rw[BU,Ta _ _ _ hfit2,hX1,Ta _ _ _ hfit1,hXg,<-this];by_cases c1:n*e<=k/\k<n*e+news.length;rw[AY c1,AY c1,Aa (by omega)];rw[Aa c1,Aa c1])
   (hsG.trans (Still.setRow.trans ((Still.drawn _).trans Still.setRow))) (λb' hb' O=>(setRow_other O).trans ((setRow_other (w:=Hh w (d.t 9) X0) O).trans (Fe hb'))) (.inl (Aj _))
  exact⟨_,Z,D,rfl,hB⟩
def PA(P:Program)(n id:Nat)(ms:List Md):Prop:=
 (∃d e,db P d n e/\id=2*e/\ms=[.o,.v,.v])\/(id=1/\∃fn,P.funcs[n]?=some fn/\fn.body.isNone=false/\(fn.name == "runtime.NumGoroutine")=false)
theorem ATp:RX (PA P) P where
 there n id ms h:=by rcases h with ⟨d,e,L,_,_⟩|⟨_,h⟩;obtain⟨nm,c,g⟩:=L.f22;exact⟨_,g,rfl,c⟩;exact h
 ct n id ms vs sh cs outs h a w R G U us hA:=by rcases h with ⟨d,e,L,rfl,rfl⟩|⟨rfl,_⟩;exact ASx L hA a;exact(a.1 rfl).elim
def ALJ(P:Program)(el:TypeId):Bool:=match P.info? el with|some i=>(match i.zero with|some z=>z.cells.all (·.oneCell')|none=>false)|none=>false
structure qG(P:Program)(d:Ren)(n e:Nat):Prop where
 mixed:P.follows .mixedOrders=true
 f24:Bears P n (Body2.n24 d)
 t0:P.underlying (d.t 0)=some (TypeDesc.tuple #[])
 a0:∀w,(isAgg (d.t 0)).run P w=.ok false w
 z0:∀w,(Go.sizeOf (d.t 0)).run P w=.ok 1 w
 t3:P.underlying (d.t 3)=some (TypeDesc.int IntKind.i64)
 a3:∀w,(isAgg (d.t 3)).run P w=.ok false w
 z3:∀w,(Go.sizeOf (d.t 3)).run P w=.ok 1 w
 t4:P.underlying (d.t 4)=some TypeDesc.bool
 a4:∀w,(isAgg (d.t 4)).run P w=.ok false w
 z4:∀w,(Go.sizeOf (d.t 4)).run P w=.ok 1 w
 t24:P.underlying (d.t 24)=some (TypeDesc.slice (d.t 9))
 a24:∀w,(isAgg (d.t 24)).run P w=.ok false w
 z24:∀w,(Go.sizeOf (d.t 24)).run P w=.ok 1 w
 z9:∀w,(Go.sizeOf (d.t 9)).run P w=.ok e w
 el:GZ P (d.t 24) e=true
 gr:OO P (d.t 9)=true
 zo:ALJ P (d.t 9)=true
theorem dR{P:Program}{ops:Array Oper}{o:Oper}{a:Act}{w:World}{K:Act->World->Prop}{Q:Exit->Act->World->Prop}{E:Prop}
 (g:o.guard=none) (s x:Operand) (t:TypeId) (c:o.op=Op.call { callee:=Callee.builtin Builtin.append,args:=#[s,x],argTypes:=#[t,t]}) (vs vx:Value) (j:a.eval s=vs) (y:a.eval x=vx) {e:Value} {w':World}
 (h:(Bj #[t,t] o.type #[vs,vx]).run P w=.ok e w') (hK:K (a.put o.dst e) w') :
 if Region.wanted o (yielded ops a.tmps)=true then Oper.wp P o a w K Q else E:=by
 have q:Region.wanted o (yielded ops a.tmps)=true:=by simp[Region.wanted,g]
 rw[AY q];simp[Oper.wp,execOp,c,resolve,invoke,builtin,j,y,h,Result.andThen];exact hK
theorem pw{t ty el:TypeId}{ti:TypeInfo}{z:Value}{b o m dc e:Nat}{cur:Array Value}{E:TypeId}(L:P.underlying t=some (.slice el))(hi:P.info? el=some ti)(O:ti.zero=some z)(J:z.cells.size=e)
 (y:z.cells.all (·.oneCell')=true) (Q:0<m) (I:F4 w b cur E e) (B:o+m*e<=cur.size) :
 ∃zs:List Value,zs.length=m*e/\(Builtin.clear_ #[t] ty #[.slice (some ⟨b,o,none⟩) m dc]).run P w=.ok (.tuple #[]) (w.setRow b (cur.toList.take o++zs++cur.toList.drop (o+zs.length)).toArray):=by
 have c:(BA z.cells m).toList.length=m*e:=by simp[BA,J]
 refine⟨(BA z.cells m).toList,c,?_⟩;have g:∀v∈(BA z.cells m).toList,v.oneCell'=true:=by
  intro v h;rw[Array.all_eq_true_iff_forall_mem]at y;simp only[BA]at h;simp at h;obtain⟨l,G,h⟩:=h;have H:0<z.cells.size:=by rcases Nat.eq_zero_or_pos z.cells.size with j|j;rw[j]at G;simp at G;exact j
  have:=FB l H;exact y v (by grind)
 have a:=GI (P:=P) (o:=o) I (vs:=(BA z.cells m).toList) (by omega) g;obtain⟨k,rfl⟩:∃k,m=k+1:=⟨m-1,by omega⟩;simp only[Builtin.clear_,A7,BU,AN];have q:(zeroValue el).run P w=.ok z w:=by simp[zeroValue,typeInfo,hi,O,go_sem]
 generalize BA=Z at a ⊢;generalize Value.cells=F at a ⊢;simp[run_underlying L,q,a,go_sem]
set_option maxHeartbeats 4000000 in
set_option maxRecDepth 1000000 in
theorem APP{e fi n c b off i j:Nat}(L:qG P d fi e)(y:i<j)(I:j<=n)(E:n<=c){A:Addr}(hA:(if c=j then (some (⟨b,off,none⟩:Addr)) else some ⟨b,off+j*e,none⟩)=some A){v:Value}{W1 W2:World}
 (a:∀ty,(Bj #[(d.t 24),(d.t 24)] ty #[.slice (some ⟨b,off,none⟩) i c,.slice (some A) (n-j) (c-j)]).run P w.drew=.ok (.slice (some ⟨b,off,none⟩) (i+(n-j)) c) W1)
 (h:∀ty,(Builtin.clear_ #[(d.t 24)] ty #[.slice (some ⟨b,off+(i+(n-j))*e,none⟩) (n-(i+(n-j))) (c-(i+(n-j)))]).run P W1=.ok v W2) :
 Calls P fi #[.slice (some ⟨b,off,none⟩) n c,.int .i64 i,.int .i64 j] w λe w'=>e=.returned (.slice (some ⟨b,off,none⟩) (i+(n-j)) c)/\w'=W2:=by
 have mixed:=L.mixed;have t0:=L.t0;have a0:=L.a0;have z0:=L.z0;have t3:=L.t3;have a3:=L.a3;have z3:=L.z3;have t4:=L.t4;have a4:=L.a4;have z4:=L.z4;have t24:=L.t24;have a24:=L.a24;have z24:=L.z24;have z9:=L.z9;have J:=run_underlying L.t3;have O:=run_underlying L.t4;have H:=run_underlying L.t24;have G:¬i=j:=by omega
 have q:i<=c:=by omega
 have B:j<=c:=by omega
 have g:¬(c=i+(n-j)):=by omega
 obtain⟨nm,_,F24⟩:=L.f24
 go_enter F24,Body2.n24_ntmps d
 go_wp2_with fail
 go_region_law_o (refine dR rfl (.tmp 22) (.tmp 25) (d.t 24) rfl _ _ (by simp[Act.eval,Act.put]) (by simp[Act.eval,Act.put]) (a _) ?_)
 go_wp2
 go_ret
 exact⟨rfl,rfl⟩
theorem AYu{A:Nat->Nat->List Md->Prop}{R:Nat->Blk}{G:Nat->Nat->Blk}{U:Nat->List Value}{us:List Value}{vs:List V}{sh:Sh}{cs:List T}{outs:List (List T)}{fi e:Nat}(L:qG P d fi e)
 (hA:OH A P w R G U [.o,.v,.v] vs us) (S:WY (2*e+1) vs sh cs outs) :
 Calls P fi us.toArray w λe w'=>∃v Z D,e=.returned v/\pW w w' R G U [.o,.v,.v] us sh cs outs v Z D:=by
 unfold WY at S;replace S:=S.2;rw[Aa (by omega),show (2*e+1) / 2=e by omega]at S;obtain⟨xs,i,j,rfl,hfx,hi0,hij,hjn,rfl,rfl,rfl⟩:=S;obtain⟨u0,u1,u2,rfl⟩:∃u0 u1 u2,us=[u0,u1,u2]:=by
  have:=hA.nJ
  match us,this with
  | [a,b,c],_=>exact⟨a,b,c,rfl⟩
 have h0:=hA.arg 0 _ _ _ rfl rfl rfl;have X:=hA.arg 1 _ _ _ rfl rfl rfl;have h2:=hA.arg 2 _ _ _ rfl rfl rfl;obtain⟨q0,⟨l0,o0⟩,_⟩:=h0;obtain⟨q1,⟨l1,o1⟩,_⟩:=X;obtain⟨q2,⟨l2,o2⟩,_⟩:=h2;obtain⟨z0,y,hO⟩:=o0 0 _ rfl;obtain⟨z1,hz1,hV1⟩:=o1 0 _ rfl;obtain⟨z2,hz2,hV2⟩:=o2 0 _ rfl;have e0:u0=z0:=by
  rw[q0];match hU:U 0,l0,y with
  | [a],_,y=>simpa[mkV] using y
 have e1:u1=z1:=by
  rw[q1];match hU:U 1,l1,hz1 with
  | [a],_,y=>simpa[mkV] using y
 have e2:u2=z2:=by
  rw[q2];match hU:U 2,l2,hz2 with
  | [a],_,y=>simpa[mkV] using y
 subst e0 e1 e2;have hi:u1=.int .i64 ((i.toNat:Nat):Int):=by
  cases hV1 with
  |sc h=>rw[show u1=_ from h];congr 1;omega
 have O:u2=.int .i64 ((j.toNat:Nat):Int):=by
  cases hV2 with
  |sc h=>rw[show u2=_ from h];congr 1;omega
 subst hi O;obtain⟨el,ti,ht,H,hts,htb,hpos⟩:=Hf L.el;have hel:el=d.t 9:=by
  have:=L.t24;rw[this]at ht;cases ht;rfl
 subst hel;obtain⟨ti',zv,J,hzv,hzs,hb0⟩:=XN L.gr;rw[H]at J;cases J;have hzo:zv.cells.all (·.oneCell')=true:=by
  have:=L.zo;unfold ALJ at this;simpa only[H,hzv] using this
 rcases AKV (e:=e) hO rfl (by simp[eOf]) hfx with ⟨_,rfl⟩|⟨b,off,cap,arr,E,c,olds,rfl,Q,hGb,hr,hsz,hX,hXc⟩;simp at hjn;omega;have hXk:∀k v,olds[k]?=some v->arr[off+k]?=some v:=iN (g:=λk=>arr[off+k]?) hX (λi j x hx=>by rw[<-CW];exact hXc i j x hx);obtain⟨n,hn⟩:∃n,n=xs.length:=⟨_,rfl⟩;obtain⟨p,S⟩:∃p,p=i.toNat:=⟨_,rfl⟩;obtain⟨q,hq⟩:∃q,q=j.toNat:=⟨_,rfl⟩;rw[<-S,<-hq];have hpq:p<q:=by omega
 have hqn:q<=n:=by omega
 have B:olds.length=n*e:=by rw[hX.len,hn]
 have Q:n<=cap:=by omega
 have m1:p*e<=q*e:=Ap _ (by omega);have m2:q*e<=n*e:=Ap _ hqn;have m3:n*e<=cap*e:=Ap _ Q;have m4:(n-q)*e=n*e-q*e:=HZ _ _ _;have m5:(p+(n-q))*e=p*e+(n-q)*e:=Bc _ _ _;have m6:(n-(p+(n-q)))*e=q*e-p*e:=by rw[show n-(p+(n-q))=q-p by omega,HZ]
 have hXf:∀(W:World) (lo k:Nat),W.heap[b]?=w.heap[b]?->lo+k<=n->∀(l0 c0:Nat),(BX e k (.slice (some ⟨b,off+lo*e,none⟩) l0 c0)).run P W=.ok ((olds.drop (lo*e)).take (k*e)).toArray W:=by intro W lo k hW hlk l0 c0;have hle:(lo+k)*e<=n*e:=Ap _ hlk;rw[Bc]at hle;refine run_firstCells_some W e k ⟨b,off+lo*e,none⟩ l0 c0 _ (by rw[Ag,BD,B];omega) (λj v O=>?_);rw[HV];rw[CE]at O;split at O;rw[Bw]at O;have X:=hXk _ _ O;rw[<-hr.cell]at X;simp only[World.cell?]at X ⊢;rw[hW,CW];exact X;cases O
 have hnews:(olds.drop (q*e)).length=(n-q)*e:=by rw[BD,B,m4]
 obtain⟨A,hAd,hsrc⟩:∃A:Addr,(if cap=q then (some (⟨b,off,none⟩:Addr)) else some ⟨b,off+q*e,none⟩)=some A/\QU P w.drew e (.slice (some A) (n-q) (cap-q)) (n-q) (olds.drop (q*e)):=by
  by_cases hc:cap=q;have hz:n-q=0:=by omega
  have hd:olds.drop (q*e)=[]:=A9 (by rw[B];rw[show n=q by omega];exact Aj _);refine⟨⟨b,off,none⟩,by rw[AY hc],?_,?_,?_⟩;intro W;simp[Bd]
  .have:=hXf w.drew 0 0 rfl (by omega) (n-q) (cap-q);rw[hz,hd];simpa[hz] using this
  .have:=hXf w.drew.drew 0 0 rfl (by omega) (n-q) (cap-q);rw[hz,hd];simpa[hz] using this
  have htk:(olds.drop (q*e)).take ((n-q)*e)=olds.drop (q*e):=BH (by rw[hnews];exact Aj _);refine⟨⟨b,off+q*e,none⟩,by rw[Aa hc],?_,?_,?_⟩;intro W;simp[Bd]
  .have:=hXf w.drew q (n-q) rfl (by omega) (n-q) (cap-q);rw[htk]at this;exact this
  .have:=hXf w.drew.drew q (n-q) rfl (by omega) (n-q) (cap-q);rw[htk]at this;exact this
 have I:off+p*e+(olds.drop (q*e)).length<=arr.size:=by rw[hnews];omega
 have hfit':off+p*e+(olds.drop (q*e)).length<=arr.toList.length:=by rw[Bi];exact I
 have Y:=λty=>(hsrc.app (u:=d.t 24) (ty:=ty) ht H hts ht (.inr ⟨_,rfl⟩)).room (b:=b) (o:=off) (sLen:=p) (sCap:=cap) (by omega) (hr.same (w':=w.drew) rfl) I (λv hv=>hX.one v (DG hv));obtain⟨X1,hX1⟩:∃X1,X1=arr.toList.take (off+p*e)++olds.drop (q*e)++arr.toList.drop (off+p*e+(olds.drop (q*e)).length):=⟨_,rfl⟩;rw[<-hX1]at Y;have hX1l:X1.length=arr.size:=by rw[hX1,GU _ _ _ hfit',Bi]
 have hr1:F4 (w.drew.setRow b X1.toArray) b X1.toArray E e:=(hr.same (w':=w.drew) rfl).set (by rw[A7,hX1l]);obtain⟨zs,hzl,hcl0⟩:=pw (P:=P) (t:=d.t 24) (ty:=0) (o:=off+(p+(n-q))*e) (m:=n-(p+(n-q))) (dc:=cap-(p+(n-q))) ht H hzv (hzs.trans hts) hzo (by omega) hr1 (by rw[A7,hX1l];omega);have hcl:∀ty,(Builtin.clear_ #[(d.t 24)] ty #[.slice (some ⟨b,off+(p+(n-q))*e,none⟩) (n-(p+(n-q))) (cap-(p+(n-q)))]).run P (w.drew.setRow b X1.toArray)=.ok (.tuple #[]) ((w.drew.setRow b X1.toArray).setRow b (X1.take (off+(p+(n-q))*e)++zs++X1.drop (off+(p+(n-q))*e+zs.length)).toArray):=λty=>hcl0;have hfit2:off+(p+(n-q))*e+zs.length<=X1.length:=by rw[hX1l,hzl];omega
 rw[<-hn];refine(APP L hpq hqn Q hAd Y hcl).mono ?_;rintro _ w' ⟨rfl,rfl⟩;have hXt:=hX.AYO (n:=p) (by omega);have hXd:=hX.AX2 (n:=q) (by omega);have hFin:=hXt.app hXd (by simp);have hlf:(xs.take p++xs.drop q).length=p+(n-q):=by simp;omega
 have htl:(olds.take (p*e)).length=p*e:=by rw[Ag,B];omega
 have hOw:=hFin.own (w':=(w.drew.setRow b X1.toArray).setRow b (X1.take (off+(p+(n-q))*e)++zs++X1.drop (off+(p+(n-q))*e+zs.length)).toArray) (blk:=b) (off:=off) (cap:=cap) (hr1.set (by rw[A7,A7,GU _ _ _ hfit2])) (by rw[hlf];omega)
  (by rw[A7,GU _ _ _ hfit2,hX1l];exact hsz) (by
   intro k v hk;have hkl:=(AO.1 hk).1;rw[AH,htl,hnews]at hkl;rw[BU,Ta _ _ _ hfit2,Aa (by omega),hX1,Ta _ _ _ hfit'];by_cases c1:k<p*e;rw[BS (by omega),CE,AY c1]at hk;rw[Aa (by omega)];simpa using hXk k v hk;rw[BN (by omega),htl]at hk;rw[AY (by rw[hnews];omega),<-hk];congr 1;omega) (by
   intro i j x _ h;simp only[ite_self]at h) (by
   intro i j x b _ h;simp only[ite_self]at h)
 rw[hlf]at hOw;obtain⟨Z,D,hB⟩:=nC (w:=w) (R:=R) (G:=G) (U:=U) (us:=[.slice (some ⟨b,off,none⟩) n cap,.int .i64 ((p:Nat):Int),.int .i64 ((q:Nat):Int)]) (hOw.congr (S':=λb'=>b'=b) (by simp))
  ((Still.drawn _).trans (Still.setRow.trans Still.setRow)) (λb' _ hb=>(setRow_other (w:=w.drew.setRow b X1.toArray) hb).trans (setRow_other (w:=w.drew) hb)) (.inr hGb)
 exact⟨_,Z,D,rfl,hB⟩
def PB(P:Program)(n id:Nat)(ms:List Md):Prop:=PA P n id ms\/(∃d e,qG P d n e/\id=2*e+1/\ms=[.o,.v,.v])
theorem AMK:RX (PB P) P where
 there n id ms h:=by rcases h with h|⟨d,e,L,_,_⟩;exact ATp.there n id ms h;obtain⟨nm,c,g⟩:=L.f24;exact⟨_,g,rfl,c⟩
 ct n id ms vs sh cs outs h a w R G U us hA:=by rcases h with (⟨d,e,L,rfl,rfl⟩|⟨rfl,_⟩)|⟨d,e,L,rfl,rfl⟩;exact ASx L hA a;exact(a.1 rfl).elim;exact AYu L hA a
end
end Lv
