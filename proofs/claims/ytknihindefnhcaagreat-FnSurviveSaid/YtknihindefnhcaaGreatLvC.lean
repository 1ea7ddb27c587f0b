/- The light machine is right about the program's code. -/
import Derived.Test.YtknihindefnhcaaGreatLvA
import Derived.Laws.AppendOwn
import Derived.IntWalk
import Derived.MapKept
import Derived.WideLaws
import Derived.LoopN
import Derived.Scope
import Derived.OrdersHeld
set_option linter.all false
open Array renaming empty_append->Kc,foldl_toList->Ke,getD_eq_getD_getElem?->DI,getElem?_append_left->DL,getElem?_eq_getElem->H3,getElem?_eq_some_iff->BJ,getElem?_toList->DS,length_toList->Bi,size_append->Ea,toList_inj->B1,toList_zipIdx->Jw
open Bool renaming and_eq_true->AD,false_eq_true->BP,not_eq_true'->BE,or_eq_false_iff->Ff,or_eq_true->DJ
open Go.Builtin renaming append_->Bj,copy_->Cw,firstCells->BX,lenOf->Bd,nextslicecap->Cz,zeroCells->BA
open List renaming all_eq_true->B2,cons_append->A8,contains_iff_mem->DT,drop_drop->DD,drop_eq_nil_of_le->A9,foldl_cons->Bu,getElem?_append_left->BS,getElem?_append_right->BN,getElem?_cons_succ->CG,getElem?_cons_zero->AN,getElem?_drop->Bw,getElem?_eq_getElem->AU,getElem?_eq_none->Du,getElem?_eq_some_iff->AO,getElem?_map->A0,getElem?_of_mem->B0,getElem?_tail->Kg,getElem?_toArray->BU,getElem_mem->Aw,length_append->AH,length_cons->AK,length_map->Af,length_nil->AT,length_take->Ag,map_cons->AJ,map_nil->Bb,map_toArray->DB,mem_append->Br,mem_cons->Ae,mem_map->Ef,mem_of_getElem?->A4,mem_singleton->EL,nil_append->Az,size_toArray->A7,take_of_length_le->BH
open List.cons renaming injEq->B3
open Nat renaming add_comm->Od,add_mul->Bc,add_sub_cancel_left->Il,add_zero->DV,div_add_mod->HD,div_lt_iff_lt_mul->C9,eq_zero_or_pos->Ki,le_refl->Aj,lt_of_lt_of_le->BZ,min_eq_left->EO,mod_lt->FB,mul_comm->G0,mul_le_mul_right->Ap,mul_one->LW,ne_of_gt->Kr,one_mul->HY,zero_add->A1
open Option renaming bind_some->Lm,isNone_iff_eq_none->El,isSome_iff_exists->Bq,isSome_map->FG,map_eq_some_iff->AM,map_none->I5,map_some->As
open Option.some renaming injEq->AE
open Prod.mk renaming injEq->BC
open Go.Region renaming binds->Eg,ready->Bl
open Go.Result renaming andThen->Aq
open Go.Sem renaming run_bind->Ao,run_pure->A5
namespace Lv
open Go
variable{a:Act}{K:Act->World->Prop}{xs ys:List (List T)}{es:List Ent}{ms:List Md}{vs:List Value}{e i j:Nat}{f:Nat->Nat->Blk}{c:Nat->Nat->Value}{o:Oper}{w:World}
section
variable{P:Program}{w:World}
variable{el t:TypeId}
structure QU(P:Program)(w:World)(size:Nat)(x:Value)(n:Nat)(news:List Value):Prop where
 len:∀w',(Bd x).run P w'=.ok n w'
 first:(BX size n x).run P w=.ok news.toArray w
 drew:(BX size n x).run P w.drew=.ok news.toArray w.drew
theorem za{u ty:TypeId}{i:TypeInfo}{d:TypeDesc}{x:Value}{n:Nat}{news:List Value}{b o sLen sCap:Nat}{cur:Array Value}{E:TypeId}(O:P.underlying t=some (.slice el))(hi:P.info? el=some i)
 (X:P.underlying u=some d) (I:d=.string\/∃q,d=.slice q) (G:QU P w i.size x n news) (hroom:sLen+n<=sCap) {e:Nat} (J:F4 w b cur E e) (c:o+sLen*i.size+news.length<=cur.size) (H:∀v∈news,v.oneCell'=true) :
 (Bj #[t,u] ty #[.slice (some ⟨b,o,none⟩) sLen sCap,x]).run P w =
  .ok (.slice (some ⟨b,o,none⟩) (sLen+n) sCap) (w.setRow b (cur.toList.take (o+sLen*i.size)++news++cur.toList.drop (o+sLen*i.size+news.length)).toArray):=by
 have B:=G.len w;have y:=G.first;have h:=GI (P:=P) J c H;have j:=IA (P:=P) (w:=w) hi;simp only[Bj,A7,AK,AT,A1,Nat.reduceAdd,BU,AN,CG];generalize Bd=L at B ⊢;generalize BX=F at y ⊢;rcases I with rfl|⟨q,rfl⟩<;>simp[run_underlying O,run_underlying X,j,B,y,hroom,HV,h,go_sem]
def Hh(w:World)(E:TypeId)(cells:Array Value):World:=w.drew.alloc (.cells cells E)
theorem zZ{u ty:TypeId}{i:TypeInfo}{z:Value}{d:TypeDesc}{x:Value}{n:Nat}{news olds:List Value}{ad:Option Addr}{sLen sCap:Nat}(J:P.underlying t=some (.slice el))(hi:P.info? el=some i)(X:i.zero=some z)
 (O:P.underlying u=some d) (H:d=.string\/∃q,d=.slice q) (G:QU P w i.size x n news) (I:QU P w i.size (.slice ad sLen sCap) sLen olds) (hroom:sCap<sLen+n) (h:0<i.bytes) (B:Cz (sLen+n) sCap*i.bytes<=281474976710656) :
 (Bj #[t,u] ty #[.slice ad sLen sCap,x]).run P w =
  .ok (.slice (some ⟨w.heap.size,0,none⟩) (sLen+n) (grownCap w (sLen+n) sCap el)) (Hh w el (olds.toArray++news.toArray++BA z.cells (grownCap w (sLen+n) sCap el-(sLen+n)))):=by
 have E:=G.len w;have y:=G.drew;have c:=I.drew;have j:=IA (P:=P) (w:=w) hi;have hroom':¬(sLen+n<=sCap):=by omega
 have hfit':¬(281474976710656<Cz (sLen+n) sCap*i.bytes):=by omega
 simp only[Bj,A7,AK,AT,A1,Nat.reduceAdd,BU,AN,CG];have e:∀Z:Array Value,olds.toArray++(news.toArray++Z)=(olds++news).toArray++Z:=by intro Z;rw[<-Array.append_assoc];simp
 generalize Bd=L at E ⊢;generalize BX=F at y c ⊢;rcases H with rfl|⟨q,rfl⟩<;>simp[run_underlying J,run_underlying O,j,E,hroom',typeInfo,hi,hfit',y,c,Kr h,Question.forced,zeroValue,X,newRow,grownCap,Hh,e,go_sem]
theorem AEC{u ty:TypeId}{i:TypeInfo}{d:TypeDesc}{x:Value}(B:P.underlying t=some (.slice el))(hi:P.info? el=some i)
 (E:P.underlying u=some d) (y:d=.string\/∃e,d=.slice e) (q:QU P w i.size x 0 []) :
 (Bj #[t,u] ty #[.slice none 0 0,x]).run P w=.ok (.slice none 0 0) w:=by have j:=q.len w;have h:=q.first;have c:=IA (P:=P) (w:=w) hi;simp only[Bj,A7,AK,AT,A1,Nat.reduceAdd,BU,AN,CG];generalize Bd=L at j ⊢;generalize BX=F at h ⊢;rcases y with rfl|⟨e,rfl⟩<;>simp[run_underlying B,run_underlying E,c,j,h,go_sem]
structure Sq(P:Program)(w:World)(t u ty el:TypeId)(e:Nat)(y:Value)(n:Nat)(news:List Value):Prop where
 room:∀{b o sLen sCap:Nat} {cur:Array Value} {E:TypeId},sLen+n<=sCap->F4 w b cur E e->o+sLen*e+news.length<=cur.size->(∀v∈news,v.oneCell'=true) ->
  (Bj #[t,u] ty #[.slice (some ⟨b,o,none⟩) sLen sCap,y]).run P w =
   .ok (.slice (some ⟨b,o,none⟩) (sLen+n) sCap) (w.setRow b (cur.toList.take (o+sLen*e)++news++cur.toList.drop (o+sLen*e+news.length)).toArray)
 grow:∀{i:TypeInfo} {z:Value} {olds:List Value} {ad:Option Addr} {sLen sCap:Nat},P.info? el=some i->i.zero=some z->i.size=e->QU P w e (.slice ad sLen sCap) sLen olds->sCap<sLen+n->0<i.bytes->Cz (sLen+n) sCap*i.bytes<=281474976710656->sLen+n<=lim ->
  (Bj #[t,u] ty #[.slice ad sLen sCap,y]).run P w =
   .ok (.slice (some ⟨w.heap.size,0,none⟩) (sLen+n) (grownCap w (sLen+n) sCap el)) (Hh w el (olds.toArray++news.toArray++BA z.cells (grownCap w (sLen+n) sCap el-(sLen+n))))
 nil:n=0->news=[]->(Bj #[t,u] ty #[.slice none 0 0,y]).run P w=.ok (.slice none 0 0) w
theorem QU.app{u ty:TypeId}{i:TypeInfo}{d:TypeDesc}{y:Value}{n:Nat}{news:List Value}{e:Nat}(h:QU P w e y n news)(I:P.underlying t=some (.slice el))(hi:P.info? el=some i)(H:i.size=e)
 (J:P.underlying u=some d) (G:d=.string\/∃c,d=.slice c):Sq P w t u ty el e y n news:=by subst H;refine⟨λj q B E=>za I hi J G h j q B E,?_,?_⟩;grind[zZ];grind[AEC]
theorem AEw{u ty:TypeId}{i:TypeInfo}{z:Value}{k0 k:IntKind}{m:Int}(O:P.underlying t=some (.slice el))(hi:P.info? el=some i)(hz:i.zero=some z)(X:P.underlying u=some (.int k0))(h0:0<=m)(h1:m<=lim)(hb:i.bytes<=65536)(hs:0<i.size)(hzs:z.cells.size=i.size) :
 Sq P w t u ty el i.size (.int k m) m.toNat (BA z.cells m.toNat).toList:=by
 have hlim:(lim:Int)=268435456:=rfl;have Y:IntKind.i64.wrap m=m:=Go.IntWalk.i64_in m (by omega);have hm:((m.toNat:Nat):Int)=m:=by omega
 have e:¬(m*(i.bytes:Int)>281474976710656):=by have:m*(i.bytes:Int)<=268435456*65536:=Int.mul_le_mul (by omega) (by omega) (by omega) (by omega);omega
 have y:∀w:World,(Go.sizeOf el).run P w=.ok i.size w:=λw=>IA (P:=P) (w:=w) hi;have B:∀w:World,(typeInfo el).run P w=.ok i w:=λw=>by simp[typeInfo,hi,go_sem]
 have H:∀w:World,(zeroValue el).run P w=.ok z w:=λw=>by simp[zeroValue,typeInfo,hi,hz,go_sem]
 have j:¬m<0:=by omega
 have J:m.toNat*i.size=0->BA z.cells m.toNat=#[]:=by intro h;apply Array.eq_empty_of_size_eq_zero;simp[BA,hzs,h]
 have happ:∀w:World,(if m.toNat*i.size=0 then pure #[] else do pure (BA (<-zeroValue el).cells m.toNat):Sem (Array Value)).run P w=.ok (BA z.cells m.toNat) w:=by intro w;split;rename_i h;rw[J h];rfl;simp[H,go_sem]
 refine⟨?_,?_,?_⟩;intro b o sLen sCap cur E h1 h2 h3 h4;have q:=GI (P:=P) h2 h3 h4;simp only[Bj,A7,AK,AT,A1,Nat.reduceAdd,BU,AN,CG];by_cases c:m.toNat*i.size=0;rw[J c]at q ⊢;have L:Result.ok () w=Result.ok () (w.setRow b (cur.toList.take (o+sLen*i.size)++[]++cur.toList.drop (o+sLen*i.size+([]:List Value).length)).toArray):=q;have I:=(Result.ok.inj L).2;generalize BA=Z;simp[run_underlying O,run_underlying X,y,B,asInt,Y,j,e,h1,c,HV,go_sem];simp at I;exact I;generalize BA=Z at q ⊢;generalize Value.cells=C at q ⊢;simp[run_underlying O,run_underlying X,y,B,asInt,Y,j,e,h1,c,HV,H,go_sem];simp[q,go_sem];intro i' z' olds ad sLen sCap g1 g2 g3 g4 g5 g6 g7 g8;rw[hi]at g1;cases g1;rw[hz]at g2;cases g2;have G:=g4.drew;have hroom':¬(sLen+m.toNat<=sCap):=by omega
 have hfit':¬(281474976710656<Cz (sLen+m.toNat) sCap*i.bytes):=by omega
 have hneed:¬(9223372036854775807<(sLen:Int)+max m 0):=by have:lim=268435456:=rfl;omega
 simp only[Bj,A7,AK,AT,A1,Nat.reduceAdd,BU,AN,CG];by_cases c:m.toNat*i.size=0;rw[J c];generalize BX=F at G ⊢;generalize BA=Z;generalize Value.cells=C;simp[run_underlying O,run_underlying X,y,B,asInt,Y,j,e,hroom',hfit',hneed,c,go_sem];simp[G,H,newRow,grownCap,Hh,Question.forced,Kr g6,go_sem];generalize BX=F at G ⊢;generalize BA=Z;generalize Value.cells=C;simp[run_underlying O,run_underlying X,y,B,asInt,Y,j,e,hroom',hfit',hneed,c,go_sem];simp[G,H,newRow,grownCap,Hh,Question.forced,Kr g6,go_sem];intro h1 h2;simp only[Bj,A7,AK,AT,A1,Nat.reduceAdd,BU,AN,CG];have hm0:m=0:=by omega
 subst hm0;simp[run_underlying O,run_underlying X,y,B,asInt,Y,go_sem]
end
structure CZ(w:World)(e:Nat)(ys:List (List T))(c:Nat->Nat->Value)(f:Nat->Nat->Blk)(vs:List Value):Prop where
 len:vs.length=ys.length*e
 row:∀row∈ys,row.length=e
 cell:∀i j x,at2 ys i j=some x->vs[i*e+j]?=some (c i j)/\Own w x (c i j) (f i j)
 dis:∀i j x i' j' x',at2 ys i j=some x->at2 ys i' j'=some x'->(i=i'->j≠j')->∀b,f i j b->¬f i' j' b
theorem Pc(c:∀row∈xs,row.length=e)(hi:i<xs.length)(h:j<e):∃x,at2 xs i j=some x:=by rw[at2,AU hi];have:=c xs[i] (Aw hi);exact⟨_,AU (by omega)⟩
theorem CZ.one(h:CZ w e ys c f vs):∀v∈vs,v.oneCell'=true:=by
 intro v H;have ⟨k,B⟩:=B0 H;have j:k<vs.length:=(AO.1 B).1;rw[h.len]at j;have y:0<e:=by grind[Nat.eq_zero_or_pos]
 have hi:k / e<ys.length:=(C9 y).2 j;have G:k % e<e:=FB _ y;have ⟨x,I⟩:=Pc h.row hi G;have ⟨q,E⟩:=h.cell _ _ _ I;rw[G0,HD,B]at q;cases q;exact E.one
theorem CZ.nil:CZ w e [] (λ_ _=>undef) (λ_ _ _=>False) []:=
 ⟨by simp,by simp,by intro i j x c;simp[at2]at c,by intro i j x h q y c;simp[at2]at c⟩
theorem CZ.read(B:∀row∈ys,row.length=e)(H:∀i j x,at2 ys i j=some x->Own w x (c i j) (f i j))
 (E:∀i j x q y I,at2 ys i j=some x->at2 ys q y=some I->(i=q->j≠y)->∀b,f i j b->¬f q y b) :
 CZ w e ys c f ((List.range (ys.length*e)).map λk=>c (k / e) (k % e)):=by
 refine⟨by simp,B,?_,E⟩;intro i j x h;refine⟨?_,H i j x h⟩;have hi:=ug h;have J:=Qb h B;have G:i*e+j<ys.length*e:=by have:(i+1)*e<=ys.length*e:=Ap _ hi;grind[Nat.add_mul]
 grind[List.getElem?_range,Option.some.injEq,Nat.mul_comm,Nat.mul_add_div,Nat.div_eq_of_lt,Nat.mul_add_mod,Nat.mod_eq_of_lt]
theorem PU{P:Program}{blk off cap:Nat}(h:CZ w e ys c f vs)
 (I:∀i j x,at2 ys i j=some x->w.cell? ⟨blk,off+i*e+j,none⟩=some (c i j)):QU P w e (.slice (some ⟨blk,off,none⟩) ys.length cap) ys.length vs:=by
 have hcell:∀j v,vs[j]?=some v->w.cell? ((⟨blk,off,none⟩:Addr).add j)=some v:=by
  intro k v B;have q:k<vs.length:=(AO.1 B).1;rw[h.len]at q;have y:0<e:=by grind[Nat.eq_zero_or_pos]
  have ⟨x,G⟩:=Pc h.row ((C9 y).2 q) (FB k y);have ⟨H,_⟩:=h.cell _ _ _ G;grind[Nat.mul_comm,Nat.div_add_mod,Nat.add_assoc,HV]
 refine⟨λw'=>by simp[Bd],run_firstCells_some (P:=P) w e ys.length ⟨blk,off,none⟩ _ cap vs h.len hcell,?_⟩;refine run_firstCells_some (P:=P) w.drew e ys.length ⟨blk,off,none⟩ _ cap vs h.len ?_;intro j v E;exact hcell j v E
theorem AMG{P:Program}{w:World}{e:Nat}{xs:List (List T)}{v:Value}{fp:Blk}(h:Own w (.sl e xs) v fp) :
 ∃c f vs,CZ w e xs c f vs/\QU P w e v xs.length vs/\∀i j x b,at2 xs i j=some x->f i j b->fp b:=by
 cases h with
 |sc h _ _=>exact h.elim|nl=>exact⟨λ_ _=>undef,λ_ _ _=>False,[],⟨by simp,by simp,by simp[at2],by simp[at2]⟩,⟨λw'=>by simp[Bd],run_firstCells_none ..,run_firstCells_none ..⟩,by simp⟩
 |sl c f E L q H O I y X B G=>subst E;refine⟨c,f,_,CZ.read q y B,PU (CZ.read q y B) ?_,?_⟩;intro i j x J;rw[H.cell];exact I i j x J;grind
theorem TC(h:Ho xs=true){x}(e:at2 xs i j=some x):flat x=true:=by unfold at2 at e;split at e;rename_i row c;simp[Ho,B2]at h;exact h row (A4 c) x (A4 e);cases e
theorem PV{w}{B}{x}{v}(h:View w B x v)(c:flat x=true):Own w x v (λ_=>False):=by
 cases h with
 |sc e=>exact .sc e (e.one (by cases x<;>first|rfl|simp[flat]at c)) (by simp)
 |sl=>simp[flat]at c|nl=>simp[flat]at c|mp=>simp[flat]at c
theorem pP{P:Program}{w:World}{B:Blk}{e:Nat}{xs:List (List T)}{v:Value}(h:View w B (.sl e xs) v)(L:Ho xs=true) :
 ∃c vs,CZ w e xs c (λ_ _ _=>False) vs/\QU P w e v xs.length vs:=by
 cases h with
 |sc h=>exact h.elim|nl=>refine⟨λ_ _=>undef,[],⟨by simp,by simp,by simp[at2],by simp[at2]⟩,λw'=>by simp[Bd],run_firstCells_none ..,run_firstCells_none ..⟩
 |@sl _ _ a len cap c E X G H I J=>
  subst E;have hC:CZ w e xs c (λ_ _ _=>False) _:=CZ.read G (λi j x q=>PV (J i j x q) (TC L q)) (by simp);refine⟨c,_,hC,?_⟩;by_cases q:xs=[]
  subst q;have O:((List.range (([]:List (List T)).length*e)).map λk=>c (k / e) (k % e))=[]:=by simp
  rw[O];refine⟨λw'=>by simp[Bd],?_,?_⟩
  .exact run_firstCells_some (P:=P) w e 0 a 0 cap [] (by simp) (by simp)
  .exact run_firstCells_some (P:=P) w.drew e 0 a 0 cap [] (by simp) (by simp)
  have ⟨y,_⟩:=H q;have ⟨blk,off,sp⟩:=a;dsimp at y;subst y;exact PU hC I
theorem YA{x:T}(h:at2 (xs++ys) i j=some x):(i<xs.length/\at2 xs i j=some x)\/(xs.length<=i/\at2 ys (i-xs.length) j=some x):=by grind[at2,List.getElem?_append_left,List.getElem?_append_right]
theorem CZ.app{c'}{X}{us}(h:CZ w e xs c f vs)(J:CZ w e ys c' X us)
(hd:∀i j x E I O b,at2 xs i j=some x->at2 ys E I=some O->f i j b->¬X E I b) :
 CZ w e (xs++ys) (λi j=>if i<xs.length then c i j else c' (i-xs.length) j) (λi j=>if i<xs.length then f i j else X (i-xs.length) j) (vs++us):=by
 refine⟨by simp[h.len,J.len,Bc],?_,?_,?_⟩;intro row H;rcases Br.1 H with H|H;exact h.row row H;exact J.row row H;intro i j x y;rcases YA y with ⟨hi,y⟩|⟨hi,y⟩;simp only[AY hi];have ⟨L,Y⟩:=h.cell i j x y;refine⟨?_,Y⟩;rw[BS (AO.1 L).1];exact L;simp only[Aa (by omega:¬i<xs.length)];have ⟨L,Y⟩:=J.cell _ j x y;refine⟨?_,Y⟩;have:i*e+j=vs.length+((i-xs.length)*e+j):=by
  rw[h.len];have:i*e=xs.length*e+(i-xs.length)*e:=by rw[<-Bc];congr 1;omega
  omega
 rw[this,BN (by omega),Il];exact L;intro i j x E I O y q G b;rcases YA y with ⟨hi,y⟩|⟨hi,y⟩<;>rcases YA q with ⟨B,q⟩|⟨B,q⟩;simp only[AY hi,AY B];exact h.dis i j x E I O y q G b;simp only[AY hi,Aa (by omega:¬E<xs.length)];exact hd _ _ _ _ _ _ b y q;simp only[Aa (by omega:¬i<xs.length),AY B];exact λhb Z=>hd _ _ _ _ _ _ b q y Z hb;simp only[Aa (by omega:¬i<xs.length),Aa (by omega:¬E<xs.length)];exact J.dis _ j x _ I O y q (by intro hh;exact G (by omega)) b
theorem CZ.own{w'}(h:CZ w e ys c f vs){blk off cap}{arr}{E}
(J:F4 w' blk arr E e)(q:ys.length<=cap)(H:off+cap*e<=arr.size)(B:∀k v,vs[k]?=some v->arr[off+k]?=some v)(G:∀i j x,at2 ys i j=some x->¬f i j blk)
(L:∀i j x b,at2 ys i j=some x->f i j b->w'.heap[b]?=w.heap[b]?) :
 Own w' (.sl e ys) (.slice (some ⟨blk,off,none⟩) ys.length cap) (λb=>b=blk\/∃i j x,at2 ys i j=some x/\f i j b):=by refine .sl c f rfl q h.row J H ?_ ?_ G h.dis (λ_=>Iff.rfl);intro i j x y;have:=B _ _ (h.cell i j x y).1;rw[<-this];congr 1;omega;intro i j x y;exact(h.cell i j x y).2.frame λb I=>L i j x b y I
section
variable{F:Fix}{S S' S1:St}{g g':Gh}{a a':Act}{w w':World}
theorem AZp(h:Inv F S g a w){l:AS}{v:Value}(O:Bz F S g w (λ_=>False) l v){e:Nat}{fl:Bool}{ys:List (List T)}(q:RT e fl S l=some (S1,ys)) :
 Tt F S S1 g a w/\∃c f vs,CZ w e ys c f vs/\QU F.P w e v ys.length vs /\
  (∀i j x b,at2 ys i j=some x->f i j b->¬F.K b/\(∀r,CP S1 r->¬g.fp r b)/\∀id,(get S.bx id).isSome->b≠g.β id):=by
 have same:Tt F S S g a w:=⟨h,λ_ _ h=>h,λ_ h=>h,rfl⟩;have nilsrc:∀{e},QU F.P w e (.slice none 0 0) ([]:List (List T)).length []:=λ{e}=>
  ⟨λw'=>by simp[Bd],by simp[BX],by simp[BX]⟩
 match l,O with
 |.t x,O=>
  cases x with
  |str s=>
   simp only[RT]at q;split at q;rename_i he;cases q;subst he;have X:v=.string ⟨s.toArray⟩:=O;have hC:CZ w 1 (LZ s) (λi _=>((s.map λb=>Value.int .u8 b.toNat)[i]?).getD undef) (λ_ _ _=>False) (s.map λb=>Value.int .u8 b.toNat):=by refine⟨by simp[LZ],?_,?_,by simp⟩;intro row hr;simp[LZ,Ef]at hr;obtain⟨_,_,rfl⟩:=hr;rfl;intro i j x Y;obtain⟨b,E,rfl,rfl⟩:=qS Y;simp[LW,DV,A0,E,As,Option.getD_some,true_and];exact .sc rfl rfl (by simp)
   refine⟨same,_,_,_,hC,⟨λw'=>?_,?_,?_⟩,λ_ _ _ _ _ E=>E.elim⟩;rw[X];simp[Bd,LZ,ByteArray.size];rw[X];simp[BX,LZ,ByteArray.data_extract];rw[X];simp[BX,LZ,ByteArray.data_extract];cases q
  |nil=>simp[RT,AE,BC]at q;obtain⟨rfl,rfl⟩:=q;have X:v=.slice none 0 0:=O;subst X;exact⟨same,_,_,_,CZ.nil,nilsrc,λ_ _ _ _ _ E=>E.elim⟩
  |_=>simp[RT]at q
 |.vw s e' xs,O=>
  simp only[RT]at q;split at q;rename_i hc;obtain⟨rfl,Z⟩:=hc;simp[AE,BC]at q;obtain⟨rfl,rfl⟩:=q;have ⟨B,hV⟩:∃B,View w B (.sl e' xs) v:=by
   cases s with
   |own r p=>have ⟨_,⟨S0,_,hO⟩,_⟩:=O;exact⟨_,hO.view⟩|old k=>exact⟨_,O⟩
  have ⟨c,vs,hC,hS⟩:=pP (P:=F.P) hV Z;exact⟨same,c,_,vs,hC,hS,λ_ _ _ _ _ E=>E.elim⟩;cases q
 |.al r sub,⟨x,u,I,h2,h3⟩=>
  simp[RT,I]at q;have ⟨u',hu',hown⟩:=h.C6 r _ I;rw[h2]at hu';cases hu';have ⟨S0,hS0,hO⟩:=TV hown h3;split at q;rename_i xs H;split at q;rename_i he;have hout:Tt F S (S.out r) g a w:=⟨h.out I,λr' y hy=>ni I hy,λid L=>XU L,zL⟩;have cells:∃c f vs,CZ w e (K6 sub xs) c f vs/\QU F.P w e v (K6 sub xs).length vs/\∀i j x b,at2 (K6 sub xs) i j=some x->f i j b->S0 b:=by
   cases x with
   |sl e' zs=>simp[content,AE]at H;subst H;simp[eOf,beq_iff_eq]at he;subst he;exact AMG (P:=F.P) hO
   |nil=>
    simp[content,AE]at H;subst H;have G:K6 sub ([]:List (List T))=[]:=by cases sub with|none=>rfl|some p=>simp[K6]
    have X:v=.slice none 0 0:=by
     cases hO with
     |sc q _ _=>exact q
    subst X;rw[G];exact⟨_,_,_,CZ.nil,nilsrc,λ_ _ _ _ _ E=>E.elim⟩
   |_=>simp[content]at H
  split at q;by_cases Z:Ho (K6 sub xs)=true;case neg=>rw[Aa Z]at q;cases q
  rw[AY Z]at q;cases q;have ⟨c,f,vs,hC,hS,G⟩:=cells;have hC':CZ w e (K6 sub xs) c (λ_ _ _=>False) vs:=
   ⟨hC.len,hC.row,λi j x Y=>⟨(hC.cell i j x Y).1,PV (hC.cell i j x Y).2.view (TC Z Y)⟩,by simp⟩
  exact⟨same,c,_,vs,hC',hS,λ_ _ _ _ _ E=>E.elim⟩;cases q;have ⟨c,f,vs,hC,hS,G⟩:=cells;refine⟨hout,c,f,vs,hC,hS,λi j x b Y E=>?_⟩;have E:=hS0 b (G i j x b Y E);refine⟨h.Hw r ⟨_,I⟩ b E,λr' hr' J=>?_,λid L J=>?_⟩;have ⟨hne,hal⟩:=JY I hr';exact h.dis r r' ⟨_,I⟩ hal (Ne.symm hne) b E J;subst J;exact h.F3 r id ⟨_,I⟩ L E;cases q;cases q
 |.und,_=>simp[RT]at q|.ow _,_=>simp[RT]at q|.ep _ _ _,_=>simp[RT]at q|.vp _ _,_=>simp[RT]at q|.bp _ _,_=>simp[RT]at q|.fn _ _,_=>simp[RT]at q
end
theorem AW8{P:Program}{w:World}{e:Nat}{xs:List (List T)}{v:Value}{fp:Blk}(h:Own w (.sl e xs) v fp) :
 (v=.slice none 0 0/\xs=[])\/∃c f vs blk off cap arr E,v=.slice (some ⟨blk,off,none⟩) xs.length cap/\xs.length<=cap/\F4 w blk arr E e/\off+cap*e<=arr.size/\CZ w e xs c f vs/\QU P w e v xs.length vs /\
  (∀k u,vs[k]?=some u->arr[off+k]?=some u)/\fp blk/\∀i j x b,at2 xs i j=some x->f i j b->fp b/\b≠blk:=by
 cases h with
 |sc h _ _=>exact h.elim|nl=>exact .inl ⟨rfl,rfl⟩|@sl _ _ blk off len cap arr E _ c f O X I J Y Z h7 h8 h9 y=>
  subst O;have hC:=CZ.read I h7 h9;refine .inr ⟨c,f,_,blk,off,cap,arr,E,rfl,X,J,Y,hC,PU hC ?_,?_,(y _).2 (.inl rfl),?_⟩;intro i j x q;rw[J.cell];exact Z i j x q;intro k u hk;have B:k<xs.length*e:=by have:=(AO.1 hk).1;rwa[hC.len]at this
  have G:0<e:=by rcases Ki e with H|H;subst H;simp at B;exact H
  have ⟨x,q⟩:=Pc I ((C9 G).2 B) (FB k G);have ⟨q1,_⟩:=hC.cell _ _ _ q;grind[Nat.mul_comm,Nat.div_add_mod,Nat.add_assoc];intro i j x b q L;exact⟨(y b).2 (.inr ⟨i,j,x,q,L⟩),λG=>h8 i j x q (G▸L)⟩
section
variable{F:Fix}{S S' S1 S2:St}{g g':Gh}{a a':Act}{w w':World}
variable{b d:Nat}{oa ob:Operand}{x:T}
theorem Inv.quiet(h:Inv F S g a w)(X:Still w w')(H:∀b,b<w.heap.size->(F.K b\/(∃r,CP S r/\g.fp r b)\/∃id,(get S.bx id).isSome/\b=g.β id)->w'.heap[b]?=w.heap[b]?):Inv F S g a w':=by
 have hR:∀b,F.K b->w'.heap[b]?=w.heap[b]?:=λb e=>H b (BZ (h.rlt b e) h.size) (.inl e);have j:∀r,CP S r->∀b,g.fp r b->w'.heap[b]?=w.heap[b]?:=by intro r O b e;have ⟨x,B⟩:=O;have ⟨v,_,c⟩:=h.C6 r _ B;exact H b (Own.lt c b e) (.inr (.inl ⟨r,⟨x,B⟩,e⟩))
 refine { C6:=?_,tms:=h.tms,bxs:=?_,dis:=h.dis,F3:=h.F3,Hw:=h.Hw,G1:=h.G1,bxR:=h.bxR,FZ:=?_,rlt:=h.rlt,still:=h.still.trans X,defs:=h.defs,tsz:=h.tsz,pin:=h.pin};intro r l q;have ⟨v,J,c⟩:=h.C6 r l q;by_cases y:∃x,l=.ow x;obtain⟨x,rfl⟩:=y;exact⟨v,J,Own.frame c (j r ⟨x,q⟩)⟩;have I:∀x,l≠.ow x:=λx B=>y ⟨x,B⟩;exact⟨v,J,Bz.any I ((Bz.any (fp':=λ_=>False) I c).tr (S':=S) (g':=g) (w':=w') (λY G=>⟨rfl,rfl,λ_ h=>h,j Y (c.alive G)⟩) (λ_ _=>rfl) (λ_ h=>h.elim) hR)⟩;intro id ls q;have ⟨⟨E,hE⟩,L⟩:=h.bxs id ls q;exact⟨⟨E,(H _ (BJ.1 hE).1 (.inr (.inr ⟨id,by simp[q],rfl⟩))).trans hE⟩,L⟩;intro b e;exact(hR b e).trans (h.FZ b e)
def EV(F:Fix)(S:St)(g:Gh)(b:Nat):Prop:=¬F.K b/\(∀r,CP S r->¬g.fp r b)/\∀id,(get S.bx id).isSome->b≠g.β id
theorem Inv.gm(h:Inv F S g a w){v}{S0}(X:d<F.N)(hp:S.Eo d ⟨.one,[.ow x]⟩=some S')(hs:Still w w')
(hw:∀b,b<w.heap.size->¬EV F S g b->w'.heap[b]?=w.heap[b]?)(ho:Own w' x v S0)(hS:∀b,S0 b->w.heap.size<=b\/EV F S g b):∃g',Inv F S' g' (a.put (some d) v) w':=by
 have O:Inv F S g a w':=h.quiet hs λb e B=>hw b e (by rintro⟨l1,l2,l3⟩;rcases B with B|⟨r,J,B⟩|⟨id,j,rfl⟩;exact l1 B;exact l2 r J B;exact l3 id j rfl);have q:∀b,S0 b->EV F S g b:=by intro b e;rcases hS b e with e|e;refine⟨λhK=>absurd (BZ (h.rlt b hK) h.size) (by omega),?_,?_⟩;rintro r ⟨y,L⟩ Y;have ⟨u,_,I⟩:=h.C6 r _ L;exact absurd (Own.lt I b Y) (by omega);rintro id j rfl;have ⟨ls,H⟩:=Bq.1 j;have ⟨⟨E,hE⟩,_⟩:=h.bxs id ls H;exact absurd (BJ.1 hE).1 (by omega);exact e
 refine O.Eo (vs:=[v]) (nf:=λ_=>S0) hp X ⟨rfl,?_,?_⟩;intro c l G;cases c with|zero=>simp only[AN,AE]at G;subst G;exact⟨v,rfl,ho⟩|succ c=>simp at G
 intro c y L;refine⟨λb e=>(q b e).1,λr J b e=>(q b e).2.1 r J,λid j e=>(q _ e).2.2 id j rfl,λc' y' hy' Z=>?_⟩;grind
theorem KS z  n :(BA z n).size=n*z.size:=by simp[BA]
theorem XN{P}{el}(h:OO P el=true):∃i z,P.info? el=some i/\i.zero=some z/\z.cells.size=i.size/\0<i.bytes:=by grind[OO]
def gz(v':Value)(w':World)(len n e:Nat)(news:List Value):Prop:=∃blk off cap,v'=.slice (some ⟨blk,off,none⟩) (len+n) cap/\∀k u,news[k]?=some u->w'.cell? ⟨blk,off+len*e+k,none⟩=some u
theorem AAY(h:Inv F S g a w){d e:Nat}{t u ty el:TypeId}{xs ys:List (List T)}{c c':Nat->Nat->Value}{f f':Nat->Nat->Blk}{olds news:List Value}{ad:Option Addr}{sCap:Nat}{y:Value}
 (hd:d<F.N) (hp:S.Eo d ⟨.one,[.ow (.sl e (xs++ys))]⟩=some S') (ht:F.P.underlying t=some (.slice el)) (hg:OO F.P el=true) (he:GZ F.P t e=true)
 (hx:CZ w e xs c f olds) (hxs:QU F.P w e (.slice ad xs.length sCap) xs.length olds) (hy:CZ w e ys c' f' news) (hys:Sq F.P w t u ty el e y ys.length news) (hroom:sCap<xs.length+ys.length) (hlim:xs.length+ys.length<=lim)
 (J:∀i j x i' j' x' b,at2 xs i j=some x->at2 ys i' j'=some x'->f i j b->¬f' i' j' b) (hl:∀i j x b,at2 xs i j=some x->f i j b->EV F S g b) (hl':∀i j x b,at2 ys i j=some x->f' i j b->EV F S g b) :
 ∃v w' g',(Bj #[t,u] ty #[.slice ad xs.length sCap,y]).run F.P w=.ok v w'/\Inv F S' g' (a.put (some d) v) w'/\(∀b,b<w.heap.size->w'.heap[b]?=w.heap[b]?)/\gz v w' xs.length ys.length e news:=by
 have ⟨i,z,hi,hz,hzs,hb0⟩:=XN hg;have ⟨el',i',ht',O,X,hby,hpos⟩:=Hf he;rw[ht]at ht';cases ht';rw[hi]at O;cases O;have L:Cz (xs.length+ys.length) sCap*i.bytes<=281474976710656:=by
  have h1:=nextslicecap_le hroom;have h2:xs.length+ys.length<=268435456:=hlim;calc Cz (xs.length+ys.length) sCap*i.bytes<=(2*268435456)*65536:=Nat.mul_le_mul (by omega) hby
   _<=281474976710656:=by omega
 have hrun:=hys.grow hi hz X hxs hroom hb0 L hlim;have hge:=grownCap_ge w (xs.length+ys.length) sCap el;have hA:=hx.app hy J;have Z:(xs++ys).length=xs.length+ys.length:=by simp
 have H:F4 (Hh w el (olds.toArray++news.toArray++BA z.cells (grownCap w (xs.length+ys.length) sCap el-(xs.length+ys.length)))) w.heap.size
  (olds.toArray++news.toArray++BA z.cells (grownCap w (xs.length+ys.length) sCap el-(xs.length+ys.length))) el e:=.of MW
 have E:∀{cells:Array Value} {b:Nat},b<w.heap.size->(Hh w el cells).heap[b]?=w.heap[b]?:=λq=>Fe q;have G:∀i j x b,at2 (xs++ys) i j=some x->(if i<xs.length then f i j else f' (i-xs.length) j) b->b<w.heap.size/\EV F S g b:=by intro i j x b B q;refine⟨Own.lt (hA.cell i j x B).2 b q,?_⟩;rcases YA B with ⟨hi,I⟩|⟨hi,I⟩;rw[AY hi]at q;exact hl _ _ _ b I q;rw[Aa (by omega)]at q;exact hl' _ _ _ b I q
 have hO:=hA.own (cap:=grownCap w (xs.length+ys.length) sCap el) (off:=0) H (by rw[Z];exact hge) (by
  simp[Ea,A7,KS,hx.len,hy.len,hzs,X,A1];rw[<-Bc,<-Bc];exact Ap _ (by omega)) (by
  intro k v Y;rw[A1,DL];simpa using Y;have:=(AO.1 Y).1;simpa using this) (by
  intro i j x B q;exact absurd (G i j x _ B q).1 (by omega)) (λi j x b B q=>E (G i j x b B q).1)
 have ⟨g',hG⟩:=h.gm hd hp (w':=Hh w el (olds.toArray++news.toArray++BA z.cells (grownCap w (xs.length+ys.length) sCap el-(xs.length+ys.length)))) (by
  refine .old ?_ rfl rfl λb q=>E q;show w.heap.size<=(w.heap.push _).size;rw[Array.size_push];omega) (λb q _=>E q) hO (by
  rintro b (rfl|⟨i,j,x,B,q⟩);exact .inl (Aj _);exact .inr (G i j x b B q).2)
 refine⟨_,_,g',hrun,by grind,λb q=>E q,_,_,_,rfl,λk u Y=>?_⟩;rw[H.cell,<-hx.len,A1,DL,Array.getElem?_append_right (by simp),A7,Il,BU];exact Y;have:=(AO.1 Y).1;simp[Ea,A7];omega
theorem AOQ(h:Inv F S g a w){d e:Nat}{t u ty el:TypeId}{xs ys:List (List T)}{c c':Nat->Nat->Value}{f f':Nat->Nat->Blk}{olds news:List Value}{blk off sCap:Nat}{arr:Array Value}{E:TypeId}{y:Value}
 (hd:d<F.N) (hp:S.Eo d ⟨.one,[.ow (.sl e (xs++ys))]⟩=some S') (ht:F.P.underlying t=some (.slice el)) (he:GZ F.P t e=true)
 (hx:CZ w e xs c f olds) (hr:F4 w blk arr E e) (hsz:off+sCap*e<=arr.size) (hat:∀k u,olds[k]?=some u->arr[off+k]?=some u) (hy:CZ w e ys c' f' news) (hys:Sq F.P w t u ty el e y ys.length news) (hroom:xs.length+ys.length<=sCap)
 (O:∀i j x i' j' x' b,at2 xs i j=some x->at2 ys i' j'=some x'->f i j b->¬f' i' j' b) (hl:∀i j x b,at2 xs i j=some x->f i j b->EV F S g b/\b≠blk) (hl':∀i j x b,at2 ys i j=some x->f' i j b->EV F S g b/\b≠blk)
 (B:EV F S g blk) :
 ∃v w' g',(Bj #[t,u] ty #[.slice (some ⟨blk,off,none⟩) xs.length sCap,y]).run F.P w=.ok v w'/\Inv F S' g' (a.put (some d) v) w'/\(∀b,b≠blk->w'.heap[b]?=w.heap[b]?)/\gz v w' xs.length ys.length e news:=by
 have ⟨el',i,ht',hi,his,hby,hpos⟩:=Hf he;rw[ht]at ht';cases ht';have hA:=hx.app hy O;have X:(xs++ys).length=xs.length+ys.length:=by simp
 have Y:(xs.length+ys.length)*e<=sCap*e:=Ap _ hroom;rw[Bc]at Y;have q:off+xs.length*e+news.length<=arr.size:=by rw[hy.len];omega
 have Z:=hys.room (sCap:=sCap) hroom hr q hy.one;have H:∀i j x b,at2 (xs++ys) i j=some x->(if i<xs.length then f i j else f' (i-xs.length) j) b->EV F S g b/\b≠blk:=by intro i j x b G B;rcases YA G with ⟨hi,L⟩|⟨hi,L⟩;rw[AY hi]at B;exact hl _ _ _ b L B;rw[Aa (by omega)]at B;exact hl' _ _ _ b L B
 have hO:=hA.own (cap:=sCap) (off:=off) (w':=w.setRow blk (arr.toList.take (off+xs.length*e)++news++arr.toList.drop (off+xs.length*e+news.length)).toArray) (hr.set (by simp;omega)) (by rw[X];exact hroom) (by simp;omega) (by intro k v J;have I:=Gu arr.toList (off+xs.length*e) news (by simpa using q) (off+k);rw[Lu _ _ _ (by simpa using q)]at I;simp only[BU];rw[I];by_cases hk':k<olds.length;rw[BS hk']at J;have:=hx.len;rw[Aa (by omega)];simpa using hat k v J;rw[BN (by omega)]at J;have h1:=hx.len;have h2:=(AO.1 J).1;rw[AY (by omega)];rw[<-J];congr 1;omega) (λi j x G B=>(H i j x _ G B).2 rfl) (λi j x b G B=>setRow_other (H i j x b G B).2);have ⟨g',hG⟩:=h.gm hd hp (w':=w.setRow blk (arr.toList.take (off+xs.length*e)++news++arr.toList.drop (off+xs.length*e+news.length)).toArray) (by
  exact Still.setRow) (λb _ hnl=>setRow_other (by rintro rfl;exact hnl B)) hO (by
  rintro b (rfl|⟨i,j,x,G,B⟩);exact .inr B;exact .inr (H i j x b G B).1)
 refine⟨_,_,g',Z,by grind,λb B=>setRow_other B,_,_,_,rfl,λk u J=>?_⟩;rw[(hr.set (by simp;omega)).cell,BU,<-Lu _ _ _ (by simpa using q),Gu _ _ _ (by simpa using q)];have:=(AO.1 J).1;rw[AY (by omega),<-J];congr 1;omega
theorem AL5{r:CN}(h:Inv F S g a w)(e:S.at r=some (.ow x))(q:g.fp r b):EV F (S.out r) g b:=by refine⟨h.Hw r ⟨_,e⟩ b q,λr' E c=>?_,λid y c=>?_⟩;have ⟨B,j⟩:=JY e E;exact h.dis r r' ⟨_,e⟩ j (Ne.symm B) b q c;subst c;exact h.F3 r id ⟨_,e⟩ (XU y) q
theorem ADe{P}{w}{e}:QU P w e (.slice none 0 0) ([]:List (List T)).length []:=
 ⟨λw'=>by simp[Bd],by simp[BX],by simp[BX]⟩
theorem W4(h:Inv F S g a w){d e:Nat}{t u ty el:TypeId}{ys:List (List T)}{Z:Nat->Nat->Value}{I:Nat->Nat->Blk}{news:List Value}{y:Value}
 (J:d<F.N) (O:S.Eo d ⟨.one,[.ow (.sl e ys)]⟩=some S') (X:F.P.underlying t=some (.slice el)) (hg:OO F.P el=true) (L:GZ F.P t e=true)
 (Y:CZ w e ys Z I news) (E:Sq F.P w t u ty el e y ys.length news) (hlim:ys.length<=lim) (G:∀i j x b,at2 ys i j=some x->I i j b->EV F S g b) :
 ∃v w' g',(Bj #[t,u] ty #[.slice none 0 0,y]).run F.P w=.ok v w'/\Inv F S' g' (a.put (some d) v) w'/\(∀b,b<w.heap.size->w'.heap[b]?=w.heap[b]?)/\(ys≠[]->∃n,gz v w' n ys.length e news):=by
 cases ys with
 |nil=>
  have ⟨el',i,B,hi,his,_,_⟩:=Hf L;rw[X]at B;cases B;have hn:news=[]:=by have:=Y.len;simp at this;exact List.eq_nil_of_length_eq_zero (by simpa using this)
  subst hn;have q:=E.nil rfl rfl;have ⟨g',hG⟩:=h.gm (w':=w) (x:=.sl e []) (v:=.slice none 0 0) (S0:=λ_=>False) J O Still.refl (λ_ _ _=>rfl) (.nl (by simp)) (λ_ hb=>hb.elim);exact⟨_,_,g',q,hG,λ_ _=>rfl,λh=>(h rfl).elim⟩
 |cons r rs=>
  have ⟨v,w',g',r1,r2,r3,r4⟩:=AAY (ty:=ty) h (xs:=[]) (c:=λ_ _=>undef) (f:=λ_ _ _=>False) (olds:=[]) (sCap:=0) J O X hg L .nil ADe Y E (by simp) (by simpa using hlim)
   (by intro i j x i' j' x' b H;simp[at2]at H) (by intro i j x b H;simp[at2]at H) G
  exact⟨v,w',g',r1,r2,r3,λ_=>⟨_,r4⟩⟩
theorem EV.out{r:CN}(h:EV F S g b)(j:S.at r=some (.ow x)):EV F (S.out r) g b:=
 ⟨h.1,λr' e=>h.2.1 r' (JY j e).2,λid c=>h.2.2 id (XU c)⟩
theorem EV.tg(h:EV F S g b)(hT:Ju F S S' g g' a w):EV F S' g' b:=
 ⟨h.1,λr' e j=>h.2.1 r' (hT.al r' e) (hT.fp r' b j),λid c=>by rw[hT.β];exact h.2.2 id (hT.bx id c)⟩
theorem AKy(h:Inv F S2 g a w){v:Value}{d e:Nat}{xs ys:List (List T)}{S0:Blk}{t u ty el:TypeId}{c':Nat->Nat->Value}{f':Nat->Nat->Blk}{news:List Value}{y:Value}
 (hO:Own w (.sl e xs) v S0) (hl:∀b,S0 b->EV F S2 g b) (hlim:xs.length+ys.length<=lim) (hd:d<F.N) (hp:S2.Eo d ⟨.one,[.ow (.sl e (xs++ys))]⟩=some S') (ht:F.P.underlying t=some (.slice el))
 (hg:OO F.P el=true) (he:GZ F.P t e=true) (hy:CZ w e ys c' f' news) (J:Sq F.P w t u ty el e y ys.length news) (G:∀i j x b,at2 ys i j=some x->f' i j b->EV F S2 g b/\¬S0 b) :
 ∃H w' g',(Bj #[t,u] ty #[v,y]).run F.P w=.ok H w'/\Inv F S' g' (a.put (some d) H) w'/\(∀b,b<w.heap.size->¬S0 b->w'.heap[b]?=w.heap[b]?)/\(ys≠[]->∃n,gz H w' n ys.length e news):=by
 obtain⟨rfl,rfl⟩|⟨c,f,olds,blk,off,cap,arr,E,rfl,q2,q3,q4,q5,q6,q7,q8,q9⟩:=AW8 (P:=F.P) hO;obtain⟨H,w',g',L,O,X,Y⟩:=W4 (ty:=ty) h hd (by simpa using hp) ht hg he hy J (by simpa using hlim) λi j x b q B=>(G i j x b q B).1;exact⟨H,w',g',L,O,λb B _=>X b B,Y⟩;have I:∀i j x Z j' x' b,at2 xs i j=some x->at2 ys Z j'=some x'->f i j b->¬f' Z j' b:=
  λi j x Z j' x' b q hyy B hb'=>(G Z j' x' b hyy hb').2 (q9 i j x b q B).1
 by_cases hroom:xs.length+ys.length<=cap;obtain⟨H,w',g',L,O,X,Y⟩:=AOQ (ty:=ty) h hd hp ht he q5 q3 q4 q7 hy J hroom I (λi j x b q B=>⟨hl b (q9 i j x b q B).1,(q9 i j x b q B).2⟩)
  (λi j x b q B=>⟨(G i j x b q B).1,by rintro rfl;exact(G i j x _ q B).2 q8⟩) (hl _ q8)
 exact⟨H,w',g',L,O,λb _ hn=>X b (by rintro rfl;exact hn q8),λ_=>⟨_,Y⟩⟩;obtain⟨H,w',g',L,O,X,Y⟩:=AAY (ty:=ty) h hd hp ht hg he q5 q6 hy J (by omega) hlim I (λi j x b q B=>hl b (q9 i j x b q B).1) λi j x b q B=>(G i j x b q B).1;exact⟨H,w',g',L,O,λb B _=>X b B,λ_=>⟨_,Y⟩⟩
theorem AAg(h:Inv F S g a w){lx:AS}{v:Value}(X:Bz F S g w (λ_=>False) lx v)(hT:Tt F S S1 g a w){d e n:Nat}{b:T}{t u ty el:TypeId}{ys:List (List T)}{c':Nat->Nat->Value}{f':Nat->Nat->Blk}{news:List Value}{y:Value}
 (c:Tv e S1 lx=some (S2,b,n)) (hlim:n+ys.length<=lim) (hd:d<F.N) (hp:S2.Eo d ⟨.one,[.ow (ALT e b ys)]⟩=some S') (ht:F.P.underlying t=some (.slice el))
 (hg:OO F.P el=true) (he:GZ F.P t e=true) (hy:CZ w e ys c' f' news) (J:Sq F.P w t u ty el e y ys.length news) (E:∀i j x b,at2 ys i j=some x->f' i j b->EV F S1 g b) :
 ∃H w' g',(Bj #[t,u] ty #[v,y]).run F.P w=.ok H w'/\Inv F S' g' (a.put (some d) H) w'/\(∀b,b<w.heap.size->(∀r,lx.CA=some r->¬g.fp r b)->w'.heap[b]?=w.heap[b]?)/\(ys≠[]->∃n,gz H w' n ys.length e news):=by
 unfold Tv at c;split at c;simp[AE,BC]at c;obtain⟨rfl,rfl,rfl⟩:=c;have hv:v=.slice none 0 0:=X;subst hv;have ⟨H,w',g',Y,Z,r3,r4⟩:=W4 (ty:=ty) hT.inv hd hp ht hg he hy J (by omega) E;exact⟨H,w',g',Y,Z,λb c _=>r3 b c,r4⟩;rename_i r sub;split at c;rename_i x O;have ⟨x',uv,h1,h2,h3⟩:=X;have I:=hT.same r _ O;rw[h1]at I;cases I;have ⟨u',hu',hown⟩:=h.C6 r _ h1;rw[h2]at hu';cases hu';have ⟨S0,hS0,hO⟩:=TV hown h3;split at c;rename_i zs G;split at c;next hc=>simp[AE,BC]at c;obtain⟨rfl,rfl,rfl⟩:=c;have L:=hT.inv.out O;have hl2:∀i j x b,at2 ys i j=some x->f' i j b->EV F (S1.out r) g b:=λi j x b B c=>(E i j x b B c).out O;have hne:∀i j x b,at2 ys i j=some x->f' i j b->¬g.fp r b:=λi j x b B c=>(E i j x b B c).2.1 r ⟨_,O⟩;cases x with
 |sl e' xs0=>simp[content,AE]at G;subst G;simp[eOf,beq_iff_eq]at hc;obtain⟨rfl,_⟩:=hc;have ⟨H,w',g',Y,Z,r3,r4⟩:=AKy (ty:=ty) (xs:=K6 sub xs0) L hO (λb c=>AL5 hT.inv O (hS0 b c)) hlim hd hp ht hg he hy J (λi j x b B c=>⟨hl2 i j x b B c,λq=>hne i j x b B c (hS0 b q)⟩);exact⟨H,w',g',Y,Z,λb c hr=>r3 b c λq=>hr r rfl (hS0 b q),r4⟩
 |nil=>
  simp[content,AE]at G;subst G;have hv:v=.slice none 0 0:=by
   cases hO with
   |sc hs _ _=>exact hs
  subst hv;have ⟨H,w',g',Y,Z,r3,r4⟩:=W4 (ty:=ty) L hd hp ht hg he hy J (by omega) hl2;exact⟨H,w',g',Y,Z,λb c _=>r3 b c,r4⟩
 |_=>simp[content]at G
 cases c;cases c;cases c;rename_i r i j e' xs;split at c;rename_i hee;subst hee;split at c;rename_i S3 hpl;simp[AE,BC]at c;obtain⟨rfl,rfl,rfl⟩:=c;have ⟨hal,_,k⟩:=X;have ⟨e0,rows,O,_⟩:=QA hpl;have I:=hT.same r _ O;have ⟨e1,rows1,blk,off,len,cap,k1,k2,k3,k4,k5⟩:=k;rw[I]at k1;cases k1;have ⟨S0,g1,q1,q2,q3,q4,q5,q6,q7⟩:=hT.inv.pull hpl ⟨_,_,blk,off,len,cap,O,k2,k3,k4,k5⟩;have hloose:∀b,S0 b->EV F S3 g1 b:=λb c=>
  ⟨hT.inv.Hw r q7 b (q3 b c),λr' hr' q=>by
   by_cases hrr:r'=r;subst hrr;exact q4 b c q;exact hT.inv.dis r r' q7 (q1.al r' hr') (Ne.symm hrr) b (q3 b c) (q1.fp r' b q),λid hid q=>by
   rw[q1.β]at q;subst q;exact hT.inv.F3 r id q7 (q1.bx id hid) (q3 _ c)⟩
 have ⟨H,w',g',Y,Z,r3,r4⟩:=AKy (ty:=ty) q1.inv q2 hloose hlim hd hp ht hg he hy J (λi j x b B c=>⟨(E i j x b B c).tg q1,λq=>(E i j x b B c).2.1 r q7 (q3 b q)⟩);exact⟨H,w',g',Y,Z,λb c hr=>r3 b c λq=>hr r rfl (q3 b q),r4⟩;cases c;cases c;cases c
theorem y7(h:Inv F S g a w){e:Nat}{fl:Bool}{t u ty el:TypeId}{dd:TypeDesc}{x y:Opd}(hd:d<F.N)(c:ev (.app d e fl x y) S=some S')(hoa:CH oa x=true)(hob:CH ob y=true)
 (Y:∀p∈CK oa x,Mt F.A F.P p.1 p.2) (Z:∀p∈CK ob y,Mt F.A F.P p.1 p.2) (he:GZ F.P t e=true) (ht:F.P.underlying t=some (.slice el)) (hg:OO F.P el=true) (hu:F.P.underlying u=some dd) (G:dd=.string\/∃e',dd=.slice e') :
 ∃v w' g',(Bj #[t,u] ty #[a.eval oa,a.eval ob]).run F.P w=.ok v w'/\Inv F S' g' (a.put (some d) v) w'/\(∀b,b<w.heap.size->(∀l r,S.one x=some l->l.CA=some r->¬g.fp r b)->w'.heap[b]?=w.heap[b]?)/\∀n news,QU F.P w e (a.eval ob) n news->n≠0->∃m,gz v w' m n e news:=by
 have ⟨el',i,E,hi,I,_,_⟩:=Hf he;rw[ht]at E;cases E;simp[ev]at c;split at c;rename_i lx ly hx hy;split at c;rename_i S1 ys hs;split at c;rename_i S2 b n q;split at c;rename_i hlim;have ⟨O,_⟩:=HL h hx hoa Y;have ⟨X,_⟩:=HL h hy hob Z;have ⟨hT,c',f',news,hC,hS,J⟩:=AZp h X hs;have ⟨v',w',g',r1,r2,r3,r4⟩:=AAg (ty:=ty) h O hT q hlim hd c ht hg he hC (hS.app ht hi I hu G) λi j x b B q=>⟨(J i j x b B q).1,(J i j x b B q).2.1,λid H=>(J i j x b B q).2.2 id (hT.bx id H)⟩
 refine⟨v',w',g',r1,r2,λb q hr=>r3 b q λr L=>hr lx r hx L,λn news hN h0=>?_⟩;have e1:=(hN.len w).symm.trans (hS.len w);cases e1;have e2:=hN.first.symm.trans hS.first;simp only[Result.ok.injEq,and_true]at e2;rw[show news=_ from congrArg Array.toList e2];exact r4 (by rintro rfl;exact h0 rfl);cases c;cases c;cases c;cases c
theorem y8(h:Inv F S g a w){t u ty el:TypeId}{k0:IntKind}{zs:List T}{x y:Opd}(hd:d<F.N)(c:ev (.UA d zs x y) S=some S')(hoa:CH oa x=true)(hob:CH ob y=true)
 (hma:∀p∈CK oa x,Mt F.A F.P p.1 p.2) (hmb:∀p∈CK ob y,Mt F.A F.P p.1 p.2) (he:GZ F.P t zs.length=true) (ht:F.P.underlying t=some (.slice el)) (hg:OO F.P el=true) (hz:AEB F.P el zs=true) (hu:F.P.underlying u=some (.int k0)) :
 ∃v w' g',(Bj #[t,u] ty #[a.eval oa,a.eval ob]).run F.P w=.ok v w'/\Inv F S' g' (a.put (some d) v) w'/\∀b,b<w.heap.size->(∀l r,S.one x=some l->l.CA=some r->¬g.fp r b)->w'.heap[b]?=w.heap[b]?:=by
 have ⟨el',i,J,hi,q,X,I⟩:=Hf he;rw[ht]at J;cases J;have ⟨i2,z,E,hzv,his2,e,hzc⟩:=aG (w:=w) hz;rw[hi]at E;cases E;simp[ev]at c;split at c;rename_i lx m O hm;have ⟨k,hk⟩:=VF h hm hob hmb;split at c;rename_i hc;have ⟨Y,Z⟩:=hc;split at c;rename_i S2 b n B;split at c;rename_i hlim;have ⟨hlx,_⟩:=HL h O hoa hma;have hC0:CZ w zs.length (rowsOf m.toNat zs) (λi j=>((BA z.cells m.toNat)[i*zs.length+j]?).getD undef) (λ_ _ _=>False) (BA z.cells m.toNat).toList:=by
  refine⟨by simp[KS,rowsOf,e],by intro row L;simp[rowsOf]at L;rw[L.2],?_,by simp⟩;intro i j x O;have ⟨hi,hj⟩:=iF O;have ⟨v,hv',hs⟩:=hzc j x hj;have hjl:j<zs.length:=(AO.1 hj).1;have H:(i+1)*zs.length<=m.toNat*zs.length:=Ap _ hi;rw[Bc,HY]at H;have hmm:(BA z.cells m.toNat)[i*zs.length+j]?=some v:=by
   have hlt:i*zs.length+j<m.toNat*z.cells.size:=by rw[e];omega
   have G:(i*zs.length+j) % z.cells.size=j:=by rw[e,G0,Nat.mul_add_mod];exact Nat.mod_eq_of_lt hjl
   have hg:z.cells[j]! = v:=by rw[Array.getElem!_eq_getD,DI,hv'];rfl
   simp[BA,Array.getElem?_map,Array.getElem?_range,AY hlt,As,G,hg]
  rw[DS,hmm];exact⟨rfl,hs⟩
 have hA:Sq F.P w t u ty el zs.length (.int k m) (rowsOf m.toNat zs).length (BA z.cells m.toNat).toList:=by have:=AEw (P:=F.P) (w:=w) (ty:=ty) (k:=k) ht hi hzv hu Y Z X (by rw[q];exact I) (by rw[e,q]);rw[q]at this;simpa[rowsOf] using this
 rw[hk];have ⟨v',w',g',r1,r2,r3,r4⟩:=AAg (ty:=ty) h hlx ⟨h,λ_ _ h=>h,λ_ h=>h,rfl⟩ B (by simpa[rowsOf] using hlim) hd c ht hg he hC0 hA (λ_ _ _ _ _ B=>B.elim);exact⟨v',w',g',r1,r2,λb B L=>r3 b B λr hlr=>L lx r O hlr⟩;cases c;cases c;cases c;cases c
end
theorem AAj{xs}{e:List UInt8}(h:bytesOf xs=some e):∃ns:List Int,xs=ns.map (λn=>[T.int .u8 n])/\e=ns.map λn=>UInt8.ofNat n.toNat:=by
 induction xs generalizing e with
 |nil=>simp[bytesOf,AE]at h;subst h;exact⟨[],rfl,rfl⟩|cons x xs E=>simp[bytesOf]at h;split at h;rename_i b q c j;cases h;have ⟨ns,y,B⟩:=E j;unfold byteOf at c;split at c;rename_i n;cases c;exact⟨n::ns,by simp[y],by simp[B]⟩;cases c;cases h
theorem foldl_push f(ns:List Int)(r:ByteArray):ns.foldl (λr n=>r.push (f n)) r=⟨r.data++(ns.map f).toArray⟩:=by
 induction ns generalizing r with
 |nil=>simp|cons n ns c=>rw[Bu,c];simp[ByteArray.push]
section
variable{F:Fix}{S S':St}{g g':Gh}{a a':Act}{w w':World}
theorem y9(h:Inv F S g a w){d:Nat}{s t:TypeId}{o:Operand}{x:Opd}(hd:d<F.N)(q:ev (.RA d x) S=some S')(ho:CH o x=true)(hm:∀p∈CK o x,Mt F.A F.P p.1 p.2)(E:TL F.P s=true)(ht:isStr F.P t=true) :
 ∃v g',(∀w1,AOD (a.eval o) w w1->(convert s t (a.eval o)).run F.P w1=.ok v w1)/\Inv F S' g' (a.put (some d) v) w:=by
 simp[ev]at q;split at q;rename_i l hl;split at q;rename_i xs hxs;split at q;rename_i bs hbs;have ⟨hlx,_⟩:=HL h hl ho hm;unfold isStr at ht;split at ht;rename_i I;unfold TL at E;split at E;rename_i el H;simp[AD]at E;have ⟨y,_⟩:=E;unfold isInt at y;split at y;rename_i k G;simp[decide_eq_true_eq]at y;subst y;have ⟨ns,B,h2⟩:=AAj hbs;have X:∀w1,AOD (a.eval o) w w1->(convert s t (a.eval o)).run F.P w1=.ok (.string ⟨bs.toArray⟩) w1:=by
  intro w1 J;rcases XA h hlx hxs with ⟨hx0,hv⟩|⟨e,hV,_⟩;subst hx0;have:ns=[]:=by simpa using B.symm
  subst this;rw[hv,run_convert_bytes_string w1 s t el none 0 0 H G I];subst h2;simp[Conv.bytesToString,A5];rfl;have hflat:Ho xs=true:=by subst B;simp[Ho,flat]
  have hV:View w1 (λ_=>True) (.sl e xs) (a.eval o):=by
   revert J;generalize a.eval o=v at hV;intro J;cases hV with
   |sc h=>exact h.elim|nl=>exact .nl|@sl _ _ ad len cap Z q1 q2 Y q4 q5 q6=>refine .sl Z q1 q2 Y q4 ?_ ?_;intro i j x L;rw[KA (J ad.block rfl)];exact q5 i j x L;intro i j x L;have hf:=TC hflat L;have hq:=q6 i j x L;revert hq;generalize Z i j=u;intro hq;cases hq with|sc E=>exact .sc E|sl=>simp[flat]at hf|nl=>simp[flat]at hf|mp=>simp[flat]at hf
  have ⟨c,vs,hC,hS⟩:=pP (P:=F.P) hV hflat;generalize hv:a.eval o=v at *;cases hV with
  |sc h=>exact h.elim|nl=>
   have:ns=[]:=by simpa using B.symm
   subst this;rw[run_convert_bytes_string w1 s t el none 0 0 H G I];subst h2;simp[Conv.bytesToString,A5];rfl
  |@sl _ _ ad len cap Z q1 q2 Y q4 q5 q6=>
   rw[run_convert_bytes_string w1 s t el (some ad) len cap H G I];have hload:=hS.first;have hvs:vs=ns.map (Value.int .u8):=by
    apply List.ext_getElem?;intro i;cases hi:ns[i]? with
    |none=>
     have h3:ns.length<=i:=List.getElem?_eq_none_iff.1 hi;have h4:vs.length=ns.length*e:=by rw[hC.len,B,Af]
     have hA:(ns.map (Value.int .u8))[i]?=none:=Du (by simpa using h3);rw[hA,Du];cases ns with
     |nil=>have h5:vs.length=0:=by simpa using h4
           omega
     |cons n ns=>
      have:=Y [.int .u8 n] (by rw[B];simp);have he1:e=1:=by simpa using this.symm
      rw[he1,LW]at h4;omega
    |some n=>
     have L:at2 xs i 0=some (.int .u8 n):=by simp[at2,B,hi]
     have he:e=1:=by have:=Y [.int .u8 n] (by rw[B];exact Ef.2 ⟨n,A4 hi,rfl⟩);simpa using this.symm
     subst he;have ⟨r1,r2⟩:=hC.cell i 0 _ L;rw[LW,DV]at r1;rw[r1];cases r2 with
     |sc E _ _=>have:c i 0=.int .u8 n:=E;simp[this,hi]
   have O:len*e=len:=by
    cases ns with
    |nil=>subst B;simp at q1;subst q1;simp|cons n ns=>have:=Y [.int .u8 n] (by rw[B];simp);simp at this;subst this;simp
   simp[BX]at hload;rw[<-q1,O,hvs]at hload;rw[run_bytesToString w1 ad len cap ns hload,foldl_push,h2];simp
 have ⟨g',hg⟩:=MX (v:=.string ⟨bs.toArray⟩) h hd q rfl;exact⟨_,g',X,hg⟩;cases y;cases E;cases ht;cases q;cases q;cases q
theorem AKf(h:Inv F S g a w) ks :Inv F (S.JT ks) g a w:=by
 have H:∀r l',(S.JT ks).at r=some l'->∃l,S.at r=some l/\l'=(if cL ks l then .t .top else l):=by
  intro r l' B;cases r with
  |tmp s c=>grind[St.at,St.JT,Fx,NI,get,HU,Option.map_eq_some_iff]
  |cell b c=>grind[St.at,St.JT,Dp,get,HU,Option.map_eq_some_iff]
 have G:∀r x,S.at r=some (.ow x)->(match r with|.tmp s _=>s∉ks|.cell _ _=>True)->(S.JT ks).at r=some (.ow x):=by
  intro r x q E;cases r with
  |tmp s c=>
   simp[St.at,St.JT,Fx,NI]at q E ⊢;simp[E,if_false];cases y:get S.tm s with
   |none=>simp[y]at q|some e=>simp[y]at q;simp[HU,q,cL,AS.CA]
  |cell b c=>
   simp[St.at,St.JT,Dp]at q E ⊢;cases y:get S.bx b with
   |none=>simp[y]at q|some e=>simp[y]at q;simp[HU,q,cL,AS.CA]
 refine h.weaken ?_ ?_ ?_ rfl;intro s I j;simp only[St.JT,Fx,NI,AM]at j;obtain⟨e,j,rfl⟩:=j;split at j;cases j;exact⟨e,j,rfl,Fy _ _⟩;intro id ls' B;simp[St.JT,Dp,AM]at B;obtain⟨e,j,rfl⟩:=B;exact⟨e,j,Fy _ _⟩;grind[cL]
end
section
variable{F:Fix}{S S' S1:St}{g g':Gh}{a a':Act}{w w':World}
theorem CZ.set{e i:Nat}{xs:List (List T)}{cs:List T}{c:Nat->Nat->Value}{f:Nat->Nat->Blk}{vs us:List Value}{nf:Nat->Blk}(h:CZ w e xs c f vs)(hi:i<xs.length)(hl:cs.length=e)
 (hu:us.length=e) (ho:∀(m:Nat) x,cs[m]?=some x->∃v,us[m]?=some v/\Own w x v (nf m)) (hd:∀m m' b,m<cs.length->m'<cs.length->m≠m'->nf m b->¬nf m' b)
 (hx:∀i j x m b,at2 xs i j=some x->m<cs.length->f i j b->¬nf m b) :
 CZ w e (xs.set i cs) (λH j=>if H=i then us.getD j undef else c H j) (λH j=>if H=i then nf j else f H j) (ES vs (i*e) us):=by
 have I:(i+1)*e<=xs.length*e:=Ap _ hi;rw[Bc,HY]at I;have hg:=Gu vs (i*e) us (by rw[h.len,hu];exact I);have q:∀row∈xs.set i cs,row.length=e:=by intro row hr;rcases List.mem_or_eq_of_mem_set hr with hr|rfl;exact h.row row hr;exact hl
 refine⟨by rw[QJ,h.len,List.length_set],q,?_,?_⟩;intro H j x E;have hj:j<e:=Qb E q;rw[fw hi]at E;rw[hg];by_cases G:H=i;subst G;rw[AY rfl]at E;have ⟨v,hv,hO⟩:=ho j x E;simp only[if_true];rw[AY (by omega),show H*e+j-H*e=j from by omega,hv];refine⟨by simp[List.getD,hv],?_⟩;have:us.getD j undef=v:=by simp[List.getD,hv]
 rw[this];exact hO;rw[Aa G]at E;simp[Aa G];have ⟨q1,q2⟩:=h.cell H j x E;refine⟨?_,q2⟩;rw[Aa];exact q1;intro hh;rcases Nat.lt_or_gt_of_ne G with Z|Y;have:(H+1)*e<=i*e:=Ap _ Z;rw[Bc,HY]at this;omega;have:(i+1)*e<=H*e:=Ap _ Y;rw[Bc,HY]at this;omega;intro i1 j1 x1 i2 j2 x2 y B O b;have hj1:j1<e:=Qb y q;have hj2:j2<e:=Qb B q;rw[fw hi]at y B;by_cases G:i1=i<;>by_cases J:i2=i;simp[AY G,AY J];exact hd j1 j2 b (by omega) (by omega) (O (G.trans J.symm));rw[Aa J]at B;simp[AY G,Aa J];exact λX L=>hx _ _ _ j1 b B (by omega) L X;rw[Aa G]at y;simp[Aa G,AY J];exact λX L=>hx _ _ _ j2 b y (by omega) X L;rw[Aa G]at y;rw[Aa J]at B;simp[Aa G,Aa J];exact h.dis _ _ _ _ _ _ y B O b
theorem AXs{e n}:∀(ps:List (Nat×Operand)) (qs:List (Nat×Opd)) (S S':St) (g:Gh) (xs ys:List (List T)) (c:Nat->Nat->Value) (f:Nat->Nat->Blk) (cells:Array Value),Inv F S g a w->O1 ps qs=true ->
 (∀p∈SU ps qs,Mt F.A F.P p.1 p.2)->bsK e n S xs qs=some (S',ys)->xs.length=n->CZ w e xs c f cells.toList->(∀i j x b,at2 xs i j=some x->f i j b->EV F S g b) ->
  ∃g2,Ju F S S' g g2 a w/\ys.length=n/\∃c' f' cells',Instr.fill (λi=>some (i*e,e)) cells (ps.map λp=>(p.1,a.eval p.2))=some cells'/\CZ w e ys c' f' cells'.toList/\∀i j x b,at2 ys i j=some x->f' i j b->EV F S' g2 b
 | [],qs,S,S',g,xs,ys,c,f,cells,h,G,_,B,hn,hC,J=>by cases qs<;>simp[O1]at G;simp[bsK,AE,BC]at B;obtain⟨rfl,rfl⟩:=B;exact⟨g,Tt.toG ⟨h,λ_ _ h=>h,λ_ h=>h,rfl⟩,hn,c,f,cells,rfl,hC,J⟩
 |(i,o)::ps,qs,S,S',g,xs,ys,c,f,cells,h,G,hm,B,hn,hC,J=>by
  match qs,G with
  |(i',x)::qs,G=>
   simp[O1,AD,beq_iff_eq]at G;obtain⟨⟨rfl,ho⟩,G⟩:=G;simp[bsK]at B;split at B;rename_i en hen;split at B;rename_i hc;have ⟨c1,c2,c3⟩:=hc;split at B;rename_i S1 cs hown;have ⟨vs,h1,h2,h3,h4⟩:=QE h hen ho λp I=>hm p (by simp[SU,I]);have ⟨g1,htaken,nf,hT,hnf⟩:=WA h h3 h2 (by intro c l J;have ⟨u,hu,Z⟩:=h4 c l J;exact⟨u,hu,λ_ _ _=>Z,λ_=>Z⟩) hown;have ⟨t1,t2,t3,t4,t5,t6⟩:=hT;have hone:∀v∈vs,v.oneCell'=true:=by
    intro v hv;have ⟨c,hc⟩:=B0 hv;have hlt:c<cs.length:=by rw[<-t1];exact(AO.1 hc).1
    have ⟨v',hv',ho⟩:=t2 c cs[c] (by simp[hlt]);rw[hc]at hv';cases hv';exact ho.one
   have O:=cg c2 h2 hone;have hsz:(a.eval o).cells.size=e:=by rw[h1,<-Bi,O,h2,c1]
   have X:cs.length=e:=by rw[<-t1,h2,c1]
   have E:=hC.set (nf:=nf) (us:=vs) (by omega:i<xs.length) X (by omega) t2 t6 (by intro i' L x' m b y hm' hb1 hb2;have ⟨_,r,_,_,hr,hb3⟩:=hnf m b hm' hb2;exact(J i' L x' b y hb1).2.1 r hr hb3);have hfold:((a.eval o).cells.zipIdx.foldl (λcs (p:Value×Nat)=>cs.setIfInBounds (i*e+p.2) p.1) cells).toList=ES cells.toList (i*e) vs:=by rw[<-Ke,Jw,h1,O];exact TD _ (i*e) 0 cells
   rw[<-hfold]at E;have ⟨g2,r1,r2,c',f',cells',hfill,r3,r4⟩:=AXs ps qs S1 S' g1 _ ys _ _ _ htaken.inv G (λp I=>hm p (by simp[SU,I])) B (by simpa using hn) E (by intro i' L x' b y q;have hj:L<e:=Qb y E.row;rw[fw (by omega)]at y;by_cases H:i'=i;simp[AY H]at q;exact⟨t3 L b (by omega) q,λr hr=>t4 L r b (by omega) hr q,λid hid hbe=>t5 L id (by omega) hid (hbe▸q)⟩;rw[Aa H]at y;simp[Aa H]at q;exact(J _ _ _ b y q).tg htaken);refine⟨g2,htaken.trans r1,r2,c',f',cells',?_,r3,r4⟩;have hcell:cells.size=xs.length*e:=by rw[<-Bi];exact hC.len
   have Y:(i+1)*e<=xs.length*e:=Ap _ (by omega);rw[Bc,HY]at Y;simp only[AJ,Instr.fill];rw[Aa (by simp[hsz];omega)];exact hfill;cases B;cases B;cases B
theorem oK{P:Program}{t el:TypeId}{i:TypeInfo}{z:Value}{n:Nat}{parts:Array (Nat×Value)}{cells':Array Value}(q:P.underlying t=some (.slice el))(hi:P.info? el=some i)(y:i.zero=some z)(B:n*i.size<=16777216)
 (hfill:Instr.fill (λk=>some (k*i.size,i.size)) (madeCells z.cells (n*i.size)) parts.toList=some cells') :
 (Instr.buildSlice t n parts).run P w=.ok (.slice (some ⟨w.heap.size,0,none⟩) n n) (World.push w (.cells cells' el (0,0))):=by
 have c:=IA (P:=P) (w:=w) hi;have hlim:¬(n*i.size>2 ^ 24):=by omega
 unfold Instr.buildSlice;unfold madeCells at hfill;have j:(zeroValue el).run P w=.ok z w:=by simp[zeroValue,typeInfo,hi,y,go_sem]
 have e:∀f:Nat->Value,Array.map f (Array.range 0)=#[]:=λf=>by simp
 generalize Value.cells=C at hfill ⊢;by_cases h:n*i.size=0;rw[h,e]at hfill;simp only[Ao,run_underlying q,c,h,Aq,e,hfill,if_true,A5,newRow];simp[hfill,e,go_sem];rfl;simp only[Ao,run_underlying q,c,Aa hlim,Aa h,j,Aq,hfill,A5,newRow];simp[hfill,go_sem];rfl
theorem dE(h:Inv F S g a w){d n:Nat}{t el:TypeId}{zs:List T}{ps:Array (Nat×Operand)}{qs:List (Nat×Opd)}(hd:d<F.N)(e:ev (.CF d n zs qs) S=some S')(hu:F.P.underlying t=some (.slice el))(he:GZ F.P t zs.length=true)
 (hz:AEB F.P el zs=true) (hp:O1 ps.toList qs=true) (J:∀p∈SU ps.toList qs,Mt F.A F.P p.1 p.2) :
 ∃v w' g',(Instr.buildSlice t n (ps.map λ(i,x)=>(i,a.eval x))).run F.P w=.ok v w'/\Inv F S' g' (a.put (some d) v) w'/\∀b,b<w.heap.size->w'.heap[b]?=w.heap[b]?:=by
 simp only[ev]at e;split at e;rename_i hlim;split at e;rename_i S1 ys L;have ⟨i,z,hi,Y,B,I,X⟩:=aG (w:=w) hz;have hC0:CZ w zs.length (rowsOf n zs) (λi j=>((madeCells z.cells (n*zs.length))[i*zs.length+j]?).getD undef) (λ_ _ _=>False) (madeCells z.cells (n*zs.length)).toList:=by refine⟨by simp[madeCells,rowsOf],by intro row Z;simp[rowsOf]at Z;rw[Z.2],?_,by simp⟩;intro i j x q;have ⟨hi,hj⟩:=iF q;have ⟨v,O,hs⟩:=X j x hj;have J:=Wn (n:=n) O hi;rw[I]at J;rw[DS,J];exact⟨rfl,hs⟩
 have ⟨g2,hT,H,c',f',cells',hfill,hC,hl⟩:=AXs ps.toList qs S S1 g _ ys _ _ (madeCells z.cells (n*zs.length)) h hp J L (by simp[rowsOf]) hC0 (λ_ _ _ _ _ c=>c.elim);have G:=oK (P:=F.P) (w:=w) (n:=n) (parts:=ps.map λp=>(p.1,a.eval p.2)) (cells':=cells') hu hi Y (by rw[B];exact hlim) (by rw[B,Array.toList_map];exact hfill);have y:∀i j x b,at2 ys i j=some x->f' i j b->b<w.heap.size:=λi j x b q c=>Own.lt (hC.cell i j x q).2 b c;have hO:=hC.own (w':=World.push w (.cells cells' el (0,0))) (blk:=w.heap.size) (off:=0) (cap:=n) (arr:=cells') (E:=el) (.of MW) (by omega) (by have:=hC.len;rw[H,Bi]at this;omega) (by intro k v hk;rw[A1];simpa using hk) (λi j x q c=>absurd (y i j x _ q c) (by omega)) (λi j x b q c=>Fe (y i j x b q c));have ⟨g',hG⟩:=hT.inv.gm hd e Still.push (λb c _=>Fe c) hO (by rintro b (rfl|⟨i,j,x,q,c⟩);exact .inl (Aj _);exact .inr (hl i j x b q c));rw[H]at hG;exact⟨_,_,g',G,hG,λb c=>Fe c⟩;cases e;cases e
theorem Pd{xs:List (List T)}{n i j:Nat}{x:T}(h:at2 (xs.take n) i j=some x):i<n/\at2 xs i j=some x:=by have:=Qc (lo:=0) (xs:=xs) (n:=n) (i:=i) (j:=j) (by simpa using h);simpa using this
theorem RY{xs:List (List T)}{n i j:Nat}{x:T}(h:at2 (xs.drop n) i j=some x):at2 xs (n+i) j=some x:=by grind[at2]
theorem AHl{P:Program}{B:Blk}{e n:Nat}{ys:List (List T)}{v:Value}(hV:View w B (.sl e ys) v)(Z:Ho ys=true)(hn:n<=ys.length) :
 ∃c vs,CZ w e (ys.take n) c (λ_ _ _=>False) vs/\(∀w',(Bd v).run P w'=.ok ys.length w')/\(BX e n v).run P w=.ok vs.toArray w:=by
 cases hV with
 |sc h=>exact h.elim|nl=>refine⟨λ_ _=>undef,[],⟨by simp,by simp,by simp[at2],by simp[at2]⟩,λw'=>by simp[Bd],run_firstCells_none ..⟩
 |@sl _ _ a len cap c L h2 O X h5 Y=>
  subst L;have ⟨vs,hC⟩:∃vs,CZ w e (ys.take n) c (λ_ _ _=>False) vs:=⟨_,CZ.read (λrow hr=>O row (List.mem_of_mem_take hr)) (λi j x y=>PV (Y i j x (Pd y).2) (TC Z (Pd y).2)) (by simp)⟩;refine⟨c,_,hC,λw'=>by simp[Bd],?_⟩;refine run_firstCells_some (P:=P) w e n a _ cap _ (by rw[hC.len,Ag,EO hn]) ?_;intro k u J;have q:k<(ys.take n).length*e:=by rw[<-hC.len];exact(AO.1 J).1
  have I:0<e:=by rcases Ki e with E|E;subst E;simp at q;exact E
  have ⟨x,y⟩:=Pc hC.row ((C9 I).2 q) (FB k I);have ⟨q1,_⟩:=hC.cell _ _ _ y;rw[G0,HD,J]at q1;cases q1;have H:=(Pd y).2;have G:ys≠[]:=by rintro rfl;simp[at2]at H
  have ⟨hs,_⟩:=X G;have ⟨blk,off,sp⟩:=a;grind[Nat.add_assoc,Nat.mul_comm,Nat.div_add_mod,HV]
theorem AG6(h:Inv F S g a w){d e:Nat}{t u ty:TypeId}{oa ob:Operand}{x y:Opd}(hd:d<F.N)(q:ev (.cpy d e x y) S=some S')(hoa:CH oa x=true)(hob:CH ob y=true)
 (hma:∀p∈CK oa x,Mt F.A F.P p.1 p.2) (hmb:∀p∈CK ob y,Mt F.A F.P p.1 p.2) (he:GZ F.P t e=true) :
 ∃v w' g',(Cw #[t,u] ty #[a.eval oa,a.eval ob]).run F.P w=.ok v w'/\Inv F S' g' (a.put (some d) v) w'/\∀b,b<w.heap.size->(∀l r,S.one x=some l->l.CA=some r->¬g.fp r b)->w'.heap[b]?=w.heap[b]?:=by
 have ⟨el,ti,hu,hti,hsz,_,Y⟩:=Hf he;simp[ev]at q;split at q;rename_i r ly J hy;split at q;rename_i B xs ys Z hys;split at q;next hc=>obtain⟨rfl,hwide,hfy,hfx,hne0⟩:=hc;have ⟨hlx,_⟩:=HL h J hoa hma;have ⟨hly,_⟩:=HL h hy hob hmb;have ⟨x0,u0,q1,q2,q3⟩:=hlx;rw[Z]at q1;cases q1;have hv:a.eval oa=u0:=q3;have ⟨u',hu',X⟩:=h.C6 r _ Z;rw[q2]at hu';cases hu';have hfp:=X;cases X with
 |sc hh _ _=>exact hh.elim|nl=>simp at hne0|@sl _ _ blk off len cap arr E _ c f k1 k2 k3 k4 k5 k6 k7 k8 k9 k10=>
  subst k1;have hsrc:∃c' vs,CZ w B (ys.take (min ys.length xs.length)) c' (λ_ _ _=>False) vs/\(∀w1,(Bd (a.eval ob)).run F.P w1=.ok ys.length w1)/\(BX B (min ys.length xs.length) (a.eval ob)).run F.P w=.ok vs.toArray w:=by rcases XA h hly hys with ⟨rfl,hv⟩|⟨e2,hV,hw2⟩;rw[hv];exact⟨λ_ _=>undef,[],by simpa using (CZ.nil (w:=w) (e:=B)),λ_=>by simp[Bd],by simp[BX]⟩;have:=hw2 _ hwide;subst this;exact AHl hV hfy (Nat.min_le_left _ _)
  have ⟨c',vs,hC,hlen,hfirst⟩:=hsrc;generalize hn:min ys.length xs.length=n at *;have hnx:n<=xs.length:=by omega
  have hny:n<=ys.length:=by omega
  have hnl:(ys.take n).length=n:=by simp;omega
  have hvl:vs.length=n*B:=by rw[hC.len,hnl]
  have ⟨us,hD⟩:∃us,CZ w B (xs.drop n) (λi j=>c (n+i) j) (λ_ _ _=>False) us:=⟨_,CZ.read (λrow Z=>k3 row (List.mem_of_mem_drop Z)) (λi j x J=>PV (k7 _ _ _ (RY J)).view (TC hfx (RY J))) (by simp)⟩;have hA:=hC.app hD (by simp);have hmul:n*B<=xs.length*B:=Ap _ hnx;have hmul2:xs.length*B<=cap*B:=Ap _ k2;have I:off+vs.length<=arr.size:=by omega
  have hst:=GI (P:=F.P) (o:=off) k4 I hC.one;have hzl:(ys.take n++xs.drop n).length=xs.length:=by simp;omega
  have hO:=hA.own (cap:=cap) (off:=off) (w':=w.setRow blk (arr.toList.take off++vs++arr.toList.drop (off+vs.length)).toArray) (k4.set (by simp;omega)) (by rw[hzl];exact k2) (by simp;omega) (by
   intro k v hk;have O:=Gu arr.toList off vs (by simpa using I) (off+k);rw[Lu _ _ _ (by simpa using I)]at O;simp only[BU];rw[O];by_cases hk':k<vs.length;rw[BS hk']at hk;rw[AY (by omega),<-hk];congr 1;omega;rw[BN (by omega)]at hk;rw[Aa (by omega)];have hlt:k-vs.length<(xs.drop n).length*B:=by rw[<-hD.len];exact(AO.1 hk).1
   have ⟨x,J⟩:=Pc hD.row ((C9 Y).2 hlt) (FB (k-vs.length) Y);have ⟨p1,_⟩:=hD.cell _ _ _ J;rw[G0,HD,hk]at p1;cases p1;have:=k6 _ _ _ (RY J);rw[DS,<-this];have e1:=HD (k-vs.length) B;have e2:(n+(k-vs.length) / B)*B=n*B+B*((k-vs.length) / B):=by rw[Bc,G0 ((k-vs.length) / B)]
   congr 1;omega) (λi j x J H=>by simp at H) (λi j x b J H=>by simp at H)
  have hO':=hO.congr (S':=λb=>b=blk) (by intro b;simp);have G:g.fp r blk:=(k10 blk).2 (.inl rfl);rw[hzl]at hO';have ⟨g1,hg1⟩:=h.AU0 (ys:=ys.take n++xs.drop n) (fp':=λb=>b=blk) Z q2 hzl (w':=w.setRow blk (arr.toList.take off++vs++arr.toList.drop (off+vs.length)).toArray)
   Still.setRow (λb _ H=>setRow_other (by rintro rfl;exact H G)) hO'
   (λb H=>by subst H;exact h.Hw r ⟨_,Z⟩ _ G) (λr' hr' hne b H=>by subst H;exact h.dis r r' ⟨_,Z⟩ hr' (Ne.symm hne) _ G) (λid hid H=>h.F3 r id ⟨_,Z⟩ hid (by rw[H];exact G))
  have htk:ys.take xs.length++xs.drop ys.length=ys.take n++xs.drop n:=by rw[<-hn];rcases Nat.le_total ys.length xs.length with hh|hh;rw[EO hh,BH hh,BH (Aj _)];rw[Nat.min_eq_right hh,A9 hh,A9 (Aj _)]
  rw[htk]at q;have ⟨g2,hg2⟩:=MX (v:=.int .i64 (n:Nat)) hg1 hd q rfl;refine⟨_,_,g2,?_,hg2,λb _ H=>setRow_other (by rintro rfl;exact H _ r J rfl G)⟩;rw[hv];unfold Cw;have hs2:=IA (P:=F.P) (w:=w) hti;rw[hsz]at hs2;have hmin:Nat.min ys.length xs.length=n:=hn;have hl1:=hlen w;simp[A7,AK,AT,A1,Nat.reduceAdd,BU,AN,CG];generalize a.eval ob=vb at hl1 hfirst ⊢;generalize Bd=L at hl1 ⊢;generalize BX=FC at hfirst ⊢;simp[run_underlying hu,hl1,hmin,hs2,hfirst,hst,goInt,go_sem]
 cases q;cases q;cases q
end
section
variable{F:Fix}{S S':St}{g g':Gh}{a a':Act}{w w':World}
variable{ks:List (Int×Int)}{d:Nat}{x:Opd}{ok om:Operand}{t:TypeId}
theorem Inv.Aay(h:Inv F S g a w){r:CN}{xs ys:List (Int×Int)}{u:Value}{fp':Blk}(hx:S.at r=some (.ow (.mp xs)))(hu:g.rv r=some u)
 (hs:Still w w') (hw:∀b,b<w.heap.size->¬g.fp r b->w'.heap[b]?=w.heap[b]?) (hown:Own w' (.mp ys) u fp') (hK:∀b,fp' b->¬F.K b)
 (hdis:∀r',CP S r'->r'≠r->∀b,fp' b->¬g.fp r' b) (hB:∀id,(get S.bx id).isSome->¬fp' (g.β id)) :
 Inv F ((S.Bk r (.ow (.mp ys))).kill (GS r)) { g with fp:=λr'=>if r'=r then fp' else g.fp r'} a w':=by
 have hat:∀r',((S.Bk r (.ow (.mp ys))).kill (GS r)).at r'=(if r'=r then some (.ow (.mp ys)) else S.at r').map λl=>if GS r l then .t .top else l:=by intro r';rw[IZ,FR hx]
 have O:∀r',CP ((S.Bk r (.ow (.mp ys))).kill (GS r)) r'->CP S r':=by rintro r' ⟨x,hx'⟩;rw[hat,AM]at hx';have ⟨l,G,H⟩:=hx';split at H;cases H;subst H;split at G;subst_vars;exact⟨_,hx⟩;exact⟨x,G⟩
 have hsome:∀id,(get ((S.Bk r (.ow (.mp ys))).kill (GS r)).bx id).isSome->(get S.bx id).isSome:=by intro id Z;simp[St.kill,Dp,FG]at Z;rwa[D8]at Z
 have hKw:∀b,F.K b->w'.heap[b]?=w.heap[b]?:=λb c=>hw b (BZ (h.rlt b c) h.size) λhf=>h.Hw r ⟨_,hx⟩ b hf c;have hfw:∀r',CP S r'->r'≠r->∀b,g.fp r' b->w'.heap[b]?=w.heap[b]?:=by rintro r' ⟨x,hx'⟩ B b c;have ⟨v,_,J⟩:=h.C6 r' _ hx';exact hw b (Own.lt J b c) (h.dis r' r ⟨x,hx'⟩ ⟨_,hx⟩ B b c)
 let g':Gh:={ g with fp:=λr'=>if r'=r then fp' else g.fp r'}
 have I:g'.fp r=fp':=by simp[g']
 have y:∀r',r'≠r->g'.fp r'=g.fp r':=λr' B=>by simp[g',B]
 have tr:∀{fp:Blk} {l:AS} {v:Value},GS r l=false->(∀x,l≠.ow x)->Bz F S g w fp l v->Bz F ((S.Bk r (.ow (.mp ys))).kill (GS r)) g' w' fp l v:=by
  intro fp l v hin hno J;by_cases hr:l.CA=some r;match l,J with
  |.al e sub,⟨x,u1,q,L,h3⟩=>
   cases hr;rw[hx]at q;cases q;refine⟨.mp ys,u1,by rw[hat,AY rfl];rfl,L,?_⟩;cases sub with
   |none=>exact h3|some p=>exact h3
  |.ep e i j,⟨Y,xs1,blk,off,len,cap,q,L,h3,h4⟩=>cases hr;rw[hx]at q;cases q
  |.vw (.own e _) Y xs1,_=>cases hr;simp[GS]at hin
  |.vp (.own e _) cs1,_=>cases hr;simp[GS]at hin
  refine Bz.any hno ((Bz.any (fp':=λ_=>False) hno J).tr ?_ (λ_ _=>rfl) (λ_ h=>h.elim) hKw);intro e hr1;have ⟨x,hx1⟩:=J.alive hr1;have B:e≠r:=by rintro rfl;exact hr hr1
  refine⟨?_,rfl,λb c=>by rw[y e B];exact c,hfw e ⟨x,hx1⟩ B⟩;rw[hat,Aa B,hx1];rfl
 show Inv F _ g' a w';refine { C6:=?_,tms:=?_,bxs:=?_,dis:=?_,F3:=?_,Hw:=?_,G1:=λid id' q L=>h.G1 id id' (hsome id q) (hsome id' L),bxR:=λid q=>h.bxR id (hsome id q),FZ:=λb c=>(hKw b c).trans (h.FZ b c),rlt:=h.rlt,still:=h.still.trans hs,defs:=h.defs,tsz:=h.tsz,pin:=?_};intro r' l hl;rw[hat,AM]at hl;have ⟨l0,G,H⟩:=hl;by_cases hr:r'=r;subst hr;rw[AY rfl]at G;cases G;simp[GS,if_false,BP]at H;subst H;exact⟨u,hu,by rw[I];exact hown⟩;rw[Aa hr]at G;have ⟨v,hv,J⟩:=h.C6 r' l0 G;refine⟨v,hv,?_⟩;split at H;subst H;exact Bz.top;rename_i hin;subst H;by_cases how:∃x,l0=.ow x;obtain⟨x,rfl⟩:=how;rw[y r' hr];exact Own.frame J (hfw r' ⟨x,G⟩ hr);have hno:∀x,l0≠.ow x:=λx hx=>how ⟨x,hx⟩;exact Bz.any hno (tr (by simpa using hin) hno J);intro s e' he;simp[St.kill,Fx,AM]at he;obtain⟨Y,he1,rfl⟩:=he;have ⟨e0,q,L,h3⟩:=NZ he1;have ⟨p1,p2,p3⟩:=h.tms s e0 q;exact⟨p1,by rw[p2,L],by rw[p3,Fy,h3]⟩;intro id ls' hls;simp[St.kill,Dp,AM]at hls;obtain⟨l1,G,rfl⟩:=hls;have ⟨l0,q,L⟩:=J9 G;have ⟨⟨E,hE⟩,p2⟩:=h.bxs id l0 q;refine⟨⟨E,(hw _ (BJ.1 hE).1 λhf=>h.F3 r id ⟨_,hx⟩ (by simp[q]) hf).trans hE⟩,by rw[p2,Fy,L]⟩;intro e r2 q L B b c X;by_cases Y:e=r;subst Y;rw[I]at c;rw[y r2 (Ne.symm B)]at X;exact hdis r2 (O r2 L) (Ne.symm B) b c X;rw[y e Y]at c;by_cases e2:r2=r;subst e2;rw[I]at X;exact hdis e (O e q) Y b X c;rw[y r2 e2]at X;exact h.dis e r2 (O e q) (O r2 L) B b c X;intro e id q Z c;by_cases Y:e=r;subst Y;rw[I]at c;exact hB id (hsome id Z) c;rw[y e Y]at c;exact h.F3 e id (O e q) (hsome id Z) c;intro e q b c;by_cases Y:e=r;subst Y;rw[I]at c;exact hK b c;rw[y e Y]at c;exact h.Hw e (O e q) b c;intro p hp;have hpp:p∈S.pin:=by have:((S.Bk r (.ow (.mp ys))).kill (GS r)).pin=S.pin:=H9;rwa[this]at hp
 have ⟨q,L⟩:=h.pin p hpp;exact⟨q,λhs=>L (hsome p hs)⟩
theorem ALn{es:Array MapEntry}(h:es.toList.map eK=ks.map fE):es.size=ks.length:=by have:=congrArg List.length h;simpa using this
theorem bW n m :∀{es:List MapEntry} {ks:List (Int×Int)} (i:Nat),es.map eK=ks.map fE ->
 (Instr.findNow (.int .i64) (.int .i64 n) es i=some none/\OV ks n=0/\K5 ks n m=ks++[(n,m)]) \/
 ∃j e,Instr.findNow (.int .i64) (.int .i64 n) es i=some (some (i+j,e.val))/\es[j]?=some e/\e.key=.int .i64 n/\e.val=.int .i64 (OV ks n) /\
  (es.modify j λe=>{ e with key:=.int .i64 n,val:=.int .i64 m}).map eK=(K5 ks n m).map fE
 | [],[],i,h=>.inl ⟨rfl,rfl,rfl⟩|e::es,(k,v)::ks,i,h=>by
  simp[AJ,B3]at h;have ⟨q,E⟩:=h;have G:e.key=.int .i64 k:=congrArg Prod.fst q;have J:e.val=.int .i64 v:=congrArg Prod.snd q;by_cases c:n=k;subst c;refine .inr ⟨0,e,?_,rfl,G,?_,?_⟩;simp[Instr.findNow,Instr.sameNow,G];simp[OV,J];simp[K5,E,eK,fE];have H:Instr.findNow (.int .i64) (.int .i64 n) (e::es) i=Instr.findNow (.int .i64) (.int .i64 n) es (i+1):=by grind[Instr.findNow,Instr.sameNow]
  rcases bW n m (i+1) E with ⟨q1,y,B⟩|⟨j,I,q1,y,B,L,O⟩;exact .inl ⟨by rw[H,q1],by simp[OV,c,y],by simp[K5,c,B]⟩;refine .inr ⟨j+1,I,by rw[H,q1,show i+1+j=i+(j+1) by omega],by simpa using y,B,by simp[OV,c,L],?_⟩;simp[K5,c,O,q]
 | [],_::_,_,h=>by simp at h|_::_,[],_,h=>by simp at h
theorem cZ{P}(h:Oz P t=true):∃k e i,P.underlying t=some (.map k e)/\P.underlying k=some (.int .i64)/\P.info? e=some i/\i.zero=some (.int .i64 0):=by grind[Oz,isInt]
theorem nN(h:Inv F S g a w){o:Operand}{r:CN}(c:S.SJ x=some (r,ks))(I:CH o x=true)(H:∀p∈CK o x,Mt F.A F.P p.1 p.2) :
 ∃blk es clock,a.eval o=.map (some blk)/\S.at r=some (.ow (.mp ks))/\g.rv r=some (.map (some blk))/\w.heap[blk]?=some (.map es clock)/\es.toList.map eK=ks.map fE/\g.fp r blk/\S.one x=some (.al r none):=by
 unfold St.SJ at c;split at c;rename_i Y B;split at c;next J q=>cases c;have ⟨G,_⟩:=HL h B I H;have ⟨x0,y,q1,L,O⟩:=G;rw[q]at q1;cases q1;have X:a.eval o=y:=O;have ⟨Z,j,e⟩:=h.C6 r _ q;rw[L]at j;cases j;have hO:Own w (.mp ks) y (g.fp r):=e;cases hO with
 |sc E _ _=>exact E.elim|mp hM hS=>have ⟨es,clock,p1,p2⟩:=hM;grind
 cases c;cases c
theorem AHB(h:Inv F S g a w){t:TypeId}(j:d<F.N)(c:ev (.mmk d) S=some S') :
 ∃v w' g',(Instr.makeMap t none).run F.P w=.ok v w'/\Inv F S' g' (a.put (some d) v) w'/\∀b,b<w.heap.size->w'.heap[b]?=w.heap[b]?:=by
 simp[ev]at c;have ⟨g',q⟩:=h.newRow (w':=World.push w (.map #[] 0)) (v:=.map (some w.heap.size)) (S0:=λb=>b=w.heap.size) j c Still.push (λb e=>Fe e)
  (.mp ⟨#[],0,MW,rfl⟩ λb=>Iff.rfl) (λb e=>.inl (by omega))
 exact⟨_,_,g',rfl,q,λb e=>Fe e⟩
theorem zC(h:Inv F S g a w){k:Opd}(X:d<F.N)(c:ev (.WT d x k) S=some S')(ht:Oz F.P t=true)(E:CH om x=true)(B:CH ok k=true)
 (y:∀p∈CK om x,Mt F.A F.P p.1 p.2) (q:∀p∈CK ok k,Mt F.A F.P p.1 p.2) :
 ∃v g',(Instr.lookup t (a.eval om) (a.eval ok) false).run F.P w=.ok v w/\Inv F S' g' (a.put (some d) v) w:=by
 simp[ev]at c;split at c;rename_i r ks n hx Z;have ⟨blk,es,clock,L,e2,e3,H,O,e6,e7⟩:=nN h hx E y;have ek:a.eval ok=.int .i64 n:=Sd h Z B q;have ⟨kt,et,i,J,G,u3,u4⟩:=cZ ht;have ⟨g',Y⟩:=MX (v:=.int .i64 (OV ks n)) h X c rfl;refine⟨_,g',?_,Y⟩;rw[L,ek];have hz:(zeroValue et).run F.P w=.ok (.int .i64 0) w:=by simp[zeroValue,typeInfo,u3,u4,go_sem]
 have e:=λb=>MapKept.run_checkKey (P:=F.P) (w:=w) G (show MapKept.IsKey (.int .i64) (.int .i64 n) from (rfl:IntKind.i64=IntKind.i64)) b 9999;rcases bW n 0 0 O with ⟨q1,I,q3⟩|⟨j,e',q1,I,q3,q4,q5⟩;simp[Instr.lookup,run_underlying J,MapKept.run_getObj_map H,e,MapKept.run_findKey G q1,hz,I,Aq,go_sem];simp[Instr.lookup,run_underlying J,MapKept.run_getObj_map H,e,MapKept.run_findKey G q1,q4,Aq,go_sem];cases c
theorem zF(h:Inv F S g a w){ty:TypeId}{o:Operand}(y:d<F.N)(c:ev (.WU d x) S=some S')(H:Oz F.P t=true)(G:CH o x=true)(E:∀p∈CK o x,Mt F.A F.P p.1 p.2) :
 ∃v g',(Builtin.len_ #[t] ty #[a.eval o]).run F.P w=.ok v w/\Inv F S' g' (a.put (some d) v) w:=by simp[ev]at c;split at c;rename_i r ks I;have ⟨blk,es,clock,e,L,O,j,q,X,Y⟩:=nN h I G E;have ⟨kt,et,i,J,Z,u3,u4⟩:=cZ H;have ⟨g',B⟩:=MX (v:=.int .i64 (ks.length:Nat)) h y c rfl;refine⟨_,g',?_,B⟩;rw[e,run_len_map (w:=w) t ty blk es clock (by simp[Program.mapKeyOf,Program.mapElemOf,J]) j,ALn q];rfl;cases c
theorem Still.AZm{b:Nat}{es e:Array MapEntry}{c j:Nat}(h:w.heap[b]?=some (.map es c)):Still w { w with heap:=w.heap.setIfInBounds b (.map e j)}:=by refine⟨by simp,rfl,rfl,λa _=>?_⟩;grind[World.frozen?,MapKept.heap_set]
theorem zG(h:Inv F S g a w){ov:Operand}{k v:Opd}(q:ev (.VD x k v) S=some S')(ht:Oz F.P t=true)(hom:CH om x=true)(hok:CH ok k=true)(hov:CH ov v=true)
 (Y:∀p∈CK om x,Mt F.A F.P p.1 p.2) (X:∀p∈CK ok k,Mt F.A F.P p.1 p.2) (Z:∀p∈CK ov v,Mt F.A F.P p.1 p.2) :
 ∃w' g',(Instr.mapUpdate t (a.eval om) (a.eval ok) (a.eval ov)).run F.P w=.ok () w'/\Inv F S' g' a w'/\∀b,b<w.heap.size->(∀l r,S.one x=some l->l.CA=some r->¬g.fp r b)->w'.heap[b]?=w.heap[b]?:=by
 simp[ev]at q;split at q;rename_i r ks n m hx hk hv;have ⟨blk,es,clock,e1,I,e3,y,e5,B,e7⟩:=nN h hx hom Y;have ek:a.eval ok=.int .i64 n:=Sd h hk hok X;have evv:a.eval ov=.int .i64 m:=Sd h hv hov Z;have ⟨kt,et,i,u1,u2,u3,u4⟩:=cZ ht;cases q;have E:=λb=>MapKept.run_checkKey (P:=F.P) (w:=w) u2 (show MapKept.IsKey (.int .i64) (.int .i64 n) from (rfl:IntKind.i64=IntKind.i64)) b 9999;have main:∃c clock',(Instr.mapUpdate t (a.eval om) (a.eval ok) (a.eval ov)).run F.P w=.ok () { w with heap:=w.heap.setIfInBounds blk (.map c clock')}/\c.toList.map eK=(K5 ks n m).map fE:=by
  rw[e1,ek,evv];rcases bW n m 0 e5 with ⟨q1,q2,q3⟩|⟨j,e',q1,q2,q3,q4,q5⟩;refine⟨_,_,by simp[Instr.mapUpdate,run_underlying u1,MapKept.run_getObj_map y,E,MapKept.run_findKey u2 q1,MapKept.run_setObj_map _ y,Aq];rfl,?_⟩;rw[q3];simp[e5,eK,fE];have hj:es[j]?=some e':=by simpa using q2
  have O:(MapKept.IsKey (.int .i64) (.int .i64 n)):=(rfl:IntKind.i64=IntKind.i64);refine⟨_,_,by simp[Instr.mapUpdate,run_underlying u1,MapKept.run_getObj_map y,E,MapKept.run_findKey u2 q1,hj,q3,MapKept.run_keyThatStays O,MapKept.run_setObj_map _ y,Aq];rfl,?_⟩;simpa using q5
 have ⟨c,clock',G,J⟩:=main;have ⟨hs1,H⟩:=MapKept.heap_set (o':=Obj.map c clock') y;refine⟨_,_,G,h.Aay I e3 (fp':=λb=>b=blk) (Still.AZm y) (λb _ e=>H b (by rintro rfl;exact e B)) (.mp ⟨c,clock',hs1,J⟩ λb=>Iff.rfl)
  (λb e=>by subst e;exact h.Hw r ⟨_,I⟩ _ B) (λr' hr' hne b e=>by subst e;exact h.dis r r' ⟨_,I⟩ hr' (Ne.symm hne) _ B) (λid L e=>h.F3 r id ⟨_,I⟩ L (by rw[e];exact B)),λb _ e=>H b (by rintro rfl;exact e _ r e7 rfl B)⟩
 cases q
end
section
variable{F:Fix}{S S' S1:St}{g g':Gh}{a a':Act}{w w':World}
def AVO:Op->Option Operand|.load _ a=>some a|.convert _ _ a=>some a|_=>none
def Tch(S:St)(g:Gh)(x:XOp)(b:Nat):Prop:=
 match x with
 |.st _ p _=>AZ4 S g p b|x=>match x.wr with|some y=>∃l r,S.one y=some l/\l.CA=some r/\g.fp r b|none=>False
def Did(F:Fix)(S S':St)(g:Gh)(a:Act)(o:Oper)(w:World)(x:XOp):Prop:=
 match OU x with
 |.pure=>∃v g',(∀w1,(execOp a.eval o).run F.P w1=.ok (.value v) w1)/\Inv F S' g' (a.put o.dst v) w|.ld=>∃v g' y,AVO o.op=some y/\(∀w1,AOD (a.eval y) w w1->(execOp a.eval o).run F.P w1=.ok (.value v) w1)/\Inv F S' g' (a.put o.dst v) w|.eff=>∃n v w' g',(execOp a.eval o).run F.P w=.ok n w'/\(n=.value v\/(n=.skip/\v=undef))/\Inv F S' g' (a.put o.dst v) w'/\∀b,b<w.heap.size->¬Tch S g x b->w'.heap[b]?=w.heap[b]?
theorem DP{N}{x:XOp}{dst}{d}(h:(match x.mE,dst with|some d,some c=>d==c&&yV d N|none,none=>true|_,_=>false)=true)(e:x.mE=some d):dst=some d/\d<N:=by grind[yV]
theorem ADk(h:Inv F S g a w){o}{x}(j:P8 F.P F.N o.dst o.op x=true)(J:∀p∈Em o.op x,Mt F.A F.P p.1 p.2)(B:ev x S=some S'):Did F S S' g a o w x:=by
 obtain⟨dst,op,ty,pos,after,guard⟩:=o;dsimp only at j J;simp only[P8,AD]at j;obtain⟨q,j⟩:=j;split at j;rename_i y d b;obtain⟨rfl,I⟩:=DP q rfl;obtain⟨g',G⟩:=AKh h I B j J;exact⟨a.eval y,g',λw1=>by simp[execOp,A5],G⟩;rename_i y d b;obtain⟨rfl,I⟩:=DP q rfl;obtain⟨g',G⟩:=ATX h I B j J;exact⟨a.eval y,g',λw1=>by simp[execOp,A5],G⟩;rename_i y d b;obtain⟨rfl,I⟩:=DP q rfl;obtain⟨g',G⟩:=AKh h I B j J;exact⟨a.eval y,g',λw1=>by simp[execOp,A5],G⟩;rename_i c y z d c' y' z';obtain⟨rfl,I⟩:=DP q rfl;simp only[AD]at j;simp only[Em,Br]at J;obtain⟨t,g',ht,G⟩:=zH h I B j.1.1 j.1.2 j.2 (λp E=>J p (by simp[E])) (λp E=>J p (by simp[E])) (λp E=>J p (by simp[E]));exact⟨if t then a.eval y else a.eval z,g',λw1=>by simp only[execOp,Ao,ht,asBool,A5,Aq],G⟩;rename_i t d zs;obtain⟨rfl,I⟩:=DP q rfl;obtain⟨v,w',g',H,G,X⟩:=na h I B j;exact⟨.value v,v,w',g',by simp only[execOp,Ao,H,Aq,A5],.inl rfl,G,λb Z _=>X b Z⟩;rename_i t y d b;obtain⟨rfl,I⟩:=DP q rfl;obtain⟨v,w',g',H,G,X⟩:=AG4 (t:=t) h I B j J;exact⟨.value v,v,w',g',by simp only[execOp,Ao,H,Aq,A5],.inl rfl,G,λb Z _=>X b Z⟩;rename_i t ps d zs qs;obtain⟨rfl,I⟩:=DP q rfl;simp only[AD]at j;obtain⟨L,O⟩:=j;split at O;rename_i fs hu;simp only[AD]at O;obtain⟨v,g',H,G⟩:=nc h I B L hu O.1 O.2 J;exact⟨v,g',λw1=>by simp only[execOp,Ao,H,Aq,A5],G⟩;cases O;rename_i t n ps d n' zs qs;obtain⟨rfl,I⟩:=DP q rfl;simp only[AD,beq_iff_eq]at j;obtain⟨⟨⟨rfl,L⟩,O⟩,Y⟩:=j;split at O;rename_i el hu;obtain⟨v,w',g',H,G,X⟩:=dE h I B hu L O Y J;exact⟨.value v,v,w',g',by simp only[execOp,Ao,H,Aq,A5],.inl rfl,G,λb Z _=>X b Z⟩;cases O;rename_i t y d n b;obtain⟨rfl,I⟩:=DP q rfl;simp only[AD]at j;obtain⟨v,g',H,G⟩:=ATb h I B j.1 j.2 J;exact⟨v,g',y,rfl,λw1 hw1=>by have H:=H w1 hw1;simp only[execOp,Ao,H,Aq,A5],G⟩;rename_i t y z n y' z';have hdn:dst=none:=by
  cases dst with
  |none=>rfl|some d=>simp[XOp.mE]at q
 subst hdn;simp only[AD]at j;obtain⟨⟨L,O⟩,Y⟩:=j;split at L;rename_i i hi;obtain⟨w',g',H,G,X⟩:=ATc h B hi (by simpa using L) O Y (λp E=>J p (by simp[Em,E])) (λp E=>J p (by simp[Em,E]));exact⟨.skip,undef,w',g',by simp only[execOp,Ao,H,Aq,A5],.inr ⟨rfl,rfl⟩,G,λb _ Z=>X b Z⟩;cases L;rename_i y d b;obtain⟨rfl,I⟩:=DP q rfl;obtain⟨ad,g',H,G⟩:=AG5 h I B j J;exact⟨a.eval y,g',λw1=>by simp only[execOp,H,A5],G⟩;rename_i op t y z t2 d c op' y' z';obtain⟨rfl,I⟩:=DP q rfl;simp only[AD,decide_eq_true_eq]at j;obtain⟨⟨⟨rfl,L⟩,O⟩,Y⟩:=j;obtain⟨v,g',H,G⟩:=AG3 h I B Y L O (λp E=>J p (by simp[Em,E])) (λp E=>J p (by simp[Em,E]));exact⟨v,g',λw1=>by have H:=H w1;simp only[Ao,Aq]at H;simp only[execOp,Ao,Aq,H,A5],G⟩;rename_i op t y d op' b;obtain⟨rfl,I⟩:=DP q rfl;simp only[AD,decide_eq_true_eq]at j;obtain⟨rfl,L⟩:=j;obtain⟨v,g',H,G⟩:=ATd h I B L J;exact⟨v,g',λw1=>by simp only[execOp,Ao,H,Aq,A5],G⟩;rename_i s t y d k b;obtain⟨rfl,I⟩:=DP q rfl;simp only[AD]at j;obtain⟨v,g',H,G⟩:=AG7 (s:=s) h I B j.1.1 J j.1.2 j.2;exact⟨v,g',λw1=>by simp only[execOp,Ao,H,Aq,A5],G⟩;rename_i s t y d b;obtain⟨rfl,I⟩:=DP q rfl;simp only[AD]at j;obtain⟨v,w',g',H,G,X⟩:=zA h I B j.1.1 J j.1.2 j.2;exact⟨.value v,v,w',g',by simp only[execOp,Ao,H,Aq,A5],.inl rfl,G,λb Z _=>X b Z⟩;rename_i s t y d b;obtain⟨rfl,I⟩:=DP q rfl;simp only[AD]at j;obtain⟨v,g',H,G⟩:=y9 h I B j.1.1 J j.1.2 j.2;exact⟨v,g',y,rfl,λw1 hw1=>by have H:=H w1 hw1;simp only[execOp,Ao,H,Aq,A5],G⟩;rename_i fn first caps d f caps'
 obtain⟨rfl,I⟩:=DP q rfl;simp only[AD,Array.isEmpty_iff]at j;obtain⟨rfl,L⟩:=j;obtain⟨g',G⟩:=zD h I B L (λp E=>J p (by simp[Em,E])) (J (fn,f) (by simp[Em]));exact⟨.func (.func fn) #[] (caps.map a.eval),g',λw1=>by simp[execOp,Instr.makeFunc,A5,go_sem],G⟩;rename_i t n c d zs n' c';obtain⟨rfl,I⟩:=DP q rfl;simp only[AD]at j;obtain⟨⟨⟨L,O⟩,Y⟩,h4⟩:=j;split at O;rename_i el hu;obtain⟨v,w',g',H,G,X⟩:=zE h I B L hu O Y h4 (λp E=>J p (by simp[Em,E])) (λp E=>J p (by simp[Em,E]));exact⟨.value v,v,w',g',by simp only[execOp,Ao,H,Aq,A5],.inl rfl,G,λb Z _=>X b Z⟩;cases O;rename_i t y lo hi mx d e b lo' hi';obtain⟨rfl,I⟩:=DP q rfl;simp only[AD,El]at j;obtain⟨⟨⟨⟨L,O⟩,Y⟩,rfl⟩,h5⟩:=j;obtain⟨v,g',H,G⟩:=AHC h I B h5 L O Y (λp E=>J p (by simp[Em,E])) (λp E=>J p (by simp[Em,E])) (λp E=>J p (by simp[Em,E]));exact⟨v,g',λw1=>by simp only[execOp,Ao,I5,H,Aq,A5],G⟩;rename_i t y lo hi mx d b lo' hi';obtain⟨rfl,I⟩:=DP q rfl;simp only[AD,El]at j;obtain⟨⟨⟨⟨L,O⟩,Y⟩,rfl⟩,h5⟩:=j;obtain⟨v,g',H,G⟩:=zI h I B h5 L O Y (λp E=>J p (by simp[Em,E])) (λp E=>J p (by simp[Em,E])) (λp E=>J p (by simp[Em,E]));exact⟨v,g',λw1=>by simp only[execOp,Ao,I5,H,Aq,A5],G⟩;rename_i t y f d off b;obtain⟨rfl,I⟩:=DP q rfl;simp only[AD]at j;obtain⟨v,g',H,G⟩:=ATY h I B j.1 j.2 J;exact⟨v,g',λw1=>by simp only[execOp,Ao,H,Aq,A5],G⟩;rename_i t y f d off n b;obtain⟨rfl,I⟩:=DP q rfl;simp only[AD]at j;obtain⟨⟨L,O⟩,Y⟩:=j;split at Y;rename_i fs hu;split at Y;rename_i fl hfl;have hoff:fl.offset=off:=by unfold ZW at L;rw[hu]at L;simp only[hfl,AD,beq_iff_eq]at L;exact L.1
 obtain⟨v,g',H,G⟩:=AG9 h I B hu hfl hoff Y O J;exact⟨v,g',λw1=>by simp only[execOp,Ao,H,Aq,A5],G⟩;cases Y;cases Y;rename_i t y i d e b i';obtain⟨rfl,I⟩:=DP q rfl;simp only[AD]at j;obtain⟨⟨L,O⟩,Y⟩:=j;obtain⟨v,g',H,G⟩:=ATZ h I B L O Y (λp E=>J p (by simp[Em,E])) (λp E=>J p (by simp[Em,E]));exact⟨v,g',λw1=>by simp only[execOp,Ao,H,Aq,A5],G⟩;rename_i t y i d b i';obtain⟨rfl,I⟩:=DP q rfl;simp only[AD]at j;obtain⟨⟨L,O⟩,Y⟩:=j;obtain⟨v,g',H,G⟩:=ATa h I B L O Y (λp E=>J p (by simp[Em,E])) (λp E=>J p (by simp[Em,E]));exact⟨v,g',λw1=>by simp only[execOp,Ao,H,Aq,A5],G⟩;rename_i t y i d b i';obtain⟨rfl,I⟩:=DP q rfl;simp only[AD,beq_iff_eq]at j;obtain⟨L,rfl⟩:=j;obtain⟨v,g',H,G⟩:=AG8 h I B L;exact⟨v,g',λw1=>by simp only[execOp,Ao,H,Aq,A5],G⟩;simp[ev]at B;simp[ev]at B;rename_i args ats d b;obtain⟨rfl,I⟩:=DP q rfl;split at j;rename_i y t e1 e2;obtain rfl:args=#[y]:=B1.1 e1;obtain rfl:ats=#[t]:=B1.1 e2;simp only[AD]at j;obtain⟨v,g',H,G⟩:=AHA (ty:=ty) h I B j.2 j.1 (λp E=>J p (by simp[Em,FO,E]));exact⟨v,g',λw1=>by simp only[execOp,resolve,invoke,builtin,Ao,A5,Aq,DB,AJ,Bb,H],G⟩;cases j;rename_i args ats d b;obtain⟨rfl,I⟩:=DP q rfl;split at j;rename_i y t e1 e2;obtain rfl:args=#[y]:=B1.1 e1;obtain rfl:ats=#[t]:=B1.1 e2;simp only[AD]at j;obtain⟨v,g',H,G⟩:=zB (ty:=ty) h I B j.2 j.1 (λp E=>J p (by simp[Em,FO,E]));exact⟨v,g',λw1=>by simp only[execOp,resolve,invoke,builtin,Ao,A5,Aq,DB,AJ,Bb,H],G⟩;cases j;rename_i args ats d e fl x' y';obtain⟨rfl,I⟩:=DP q rfl;split at j;rename_i y z t u e1 e2;obtain rfl:args=#[y,z]:=B1.1 e1;obtain rfl:ats=#[t,u]:=B1.1 e2;simp only[AD]at j;obtain⟨⟨⟨⟨L,O⟩,Y⟩,h4⟩,h5⟩:=j;split at h4;rename_i el hu;have h6:∃dd,F.P.underlying u=some dd/\(dd=.string\/∃e',dd=.slice e'):=by split at h5;rename_i el' hu';exact⟨_,hu',.inr ⟨_,rfl⟩⟩;rename_i hu';exact⟨_,hu',.inl rfl⟩;cases h5
 obtain⟨dd,hdd1,hdd2⟩:=h6;obtain⟨v,w',g',H,G,X,_⟩:=y7 (ty:=ty) h I B L O (λp E=>J p (by simp[Em,FO,E])) (λp E=>J p (by simp[Em,FO,E])) Y hu h4 hdd1 hdd2;exact⟨.value v,v,w',g',by simp only[execOp,resolve,invoke,builtin,Ao,A5,Aq,DB,AJ,Bb,H],.inl rfl,G,λb Z hT=>X b Z λl r L O Y=>hT ⟨l,r,L,O,Y⟩⟩;cases h4;cases j;rename_i args ats d zs x' y';obtain⟨rfl,I⟩:=DP q rfl;split at j;rename_i y z t u e1 e2;obtain rfl:args=#[y,z]:=B1.1 e1;obtain rfl:ats=#[t,u]:=B1.1 e2;simp only[AD]at j;obtain⟨⟨⟨⟨L,O⟩,Y⟩,h4⟩,h5⟩:=j;split at h4;rename_i el hu;split at h5;rename_i k0 hu2;simp only[AD]at h4;obtain⟨v,w',g',H,G,X⟩:=y8 (ty:=ty) h I B L O (λp E=>J p (by simp[Em,FO,E])) (λp E=>J p (by simp[Em,FO,E])) Y hu h4.2 h4.1 hu2;exact⟨.value v,v,w',g',by simp only[execOp,resolve,invoke,builtin,Ao,A5,Aq,DB,AJ,Bb,H],.inl rfl,G,λb Z hT=>X b Z λl r L O Y=>hT ⟨l,r,L,O,Y⟩⟩;cases h5;cases h4;cases j;rename_i args ats d e x' y';obtain⟨rfl,I⟩:=DP q rfl;split at j;rename_i y z t u e1 e2;obtain rfl:args=#[y,z]:=B1.1 e1;obtain rfl:ats=#[t,u]:=B1.1 e2;simp only[AD]at j;obtain⟨⟨⟨L,O⟩,Y⟩,h4⟩:=j;obtain⟨v,w',g',H,G,X⟩:=AG6 (t:=t) (u:=u) (ty:=ty) h I B L O (λp E=>J p (by simp[Em,FO,E])) (λp E=>J p (by simp[Em,FO,E])) Y;exact⟨.value v,v,w',g',by simp only[execOp,resolve,invoke,builtin,Ao,A5,Aq,DB,AJ,Bb,H],.inl rfl,G,λb Z hT=>X b Z λl r L O Y=>hT ⟨l,r,L,O,Y⟩⟩;cases j;rename_i t r d;obtain⟨rfl,I⟩:=DP q rfl;simp only[AD,El]at j;obtain⟨rfl,_⟩:=j;obtain⟨v,w',g',H,G,X⟩:=AHB (t:=t) h I B;exact⟨.value v,v,w',g',by simp only[execOp,I5,Ao,H,Aq,A5],.inl rfl,G,λb Z _=>X b Z⟩;rename_i t y z okk d m' k';obtain⟨rfl,I⟩:=DP q rfl;simp only[AD,BE]at j;obtain⟨⟨⟨rfl,L⟩,O⟩,Y⟩:=j;obtain⟨v,g',H,G⟩:=zC (t:=t) h I B L O Y (λp E=>J p (by simp[Em,E])) (λp E=>J p (by simp[Em,E]));exact⟨.value v,v,w,g',by simp only[execOp,Ao,H,Aq,A5],.inl rfl,G,λb Z _=>rfl⟩;rename_i t y z u m' k' v';have hdn:dst=none:=by
  cases dst with
  |none=>rfl|some d=>simp[XOp.mE]at q
 subst hdn;simp only[AD]at j;obtain⟨⟨⟨L,O⟩,Y⟩,h4⟩:=j;obtain⟨w',g',H,G,X⟩:=zG (t:=t) h B L O Y h4 (λp E=>J p (by simp[Em,E])) (λp E=>J p (by simp[Em,E])) (λp E=>J p (by simp[Em,E]));exact⟨.skip,undef,w',g',by simp only[execOp,Ao,H,Aq,A5],.inr ⟨rfl,rfl⟩,G,λb Z hT=>X b Z λl r L O Y=>hT ⟨l,r,L,O,Y⟩⟩;rename_i args ats d b;obtain⟨rfl,I⟩:=DP q rfl;split at j;rename_i y t e1 e2;obtain rfl:args=#[y]:=B1.1 e1;obtain rfl:ats=#[t]:=B1.1 e2;simp only[AD]at j;obtain⟨v,g',H,G⟩:=zF (ty:=ty) h I B j.2 j.1 (λp E=>J p (by simp[Em,FO,E]));exact⟨.value v,v,w,g',by simp only[execOp,resolve,invoke,builtin,Ao,A5,Aq,DB,AJ,Bb,H],.inl rfl,G,λb Z _=>rfl⟩;cases j;rename_i args ats d x' y';obtain⟨rfl,I⟩:=DP q rfl;split at j;rename_i y z e1;obtain rfl:args=#[y,z]:=B1.1 e1;simp only[AD]at j;obtain⟨v,g',H,G⟩:=AKg (m:=true) (ts:=ats) (t:=ty) h I B j.1 j.2 (λp E=>J p (by simp[Em,FO,E])) (λp E=>J p (by simp[Em,FO,E]));simp only[if_true]at H;exact⟨v,g',λw1=>by simp only[execOp,resolve,invoke,builtin,Ao,A5,Aq,DB,AJ,Bb,H],G⟩;cases j;rename_i args ats d x' y';obtain⟨rfl,I⟩:=DP q rfl;split at j;rename_i y z e1;obtain rfl:args=#[y,z]:=B1.1 e1;simp only[AD]at j;obtain⟨v,g',H,G⟩:=AKg (m:=false) (ts:=ats) (t:=ty) h I B j.1 j.2 (λp E=>J p (by simp[Em,FO,E])) (λp E=>J p (by simp[Em,FO,E]));simp only[BP,if_false]at H;exact⟨v,g',λw1=>by simp only[execOp,resolve,invoke,builtin,Ao,A5,Aq,DB,AJ,Bb,H],G⟩;cases j;simp[ev]at B;cases j
theorem Did.eff{o}{x}(c:Did F S S' g a o w x):∃n v w' g',(execOp a.eval o).run F.P w=.ok n w'/\(n=.value v\/(n=.skip/\v=undef))/\Inv F S' g' (a.put o.dst v) w'/\∀b,b<w.heap.size->¬Tch S g x b->w'.heap[b]?=w.heap[b]?:=by unfold Did at c;split at c;have ⟨v,g',e,h⟩:=c;exact⟨_,v,w,g',e w,.inl rfl,h,λ_ _ _=>rfl⟩;have ⟨v,g',y,_,e,h⟩:=c;exact⟨_,v,w,g',e w (λ_ _=>rfl),.inl rfl,h,λ_ _ _=>rfl⟩;exact c
theorem Did.wp{o:Oper}{x:XOp}(c:Did F S S' g a o w x){next:Act->World->Prop}{Q:Exit->Act->World->Prop}(q:∀g' v w',Inv F S' g' (a.put o.dst v) w'->next (a.put o.dst v) w'):o.wp F.P a w next Q:=by have ⟨n,v,w',g',e,h,j,_⟩:=c.eff;grind[Oper.wp,Oper.upon]
theorem zi(h:Inv F S g a w){o:Oper}{x}(e:P8 F.P F.N o.dst o.op x=true)(q:OC x S=some S'):∃g',Inv F S' g' (a.put o.dst undef) w:=by
 have ⟨dst,op,ty,pos,after,guard⟩:=o;dsimp at e ⊢;simp[P8,AD]at e;have ⟨j,_⟩:=e;unfold OC at q;cases E:x.mE with
 |some d=>
  obtain⟨rfl,G⟩:=DP j E;simp[E]at q;refine h.Eo (vs:=[undef]) (nf:=λ_ _=>False) q G (Cells.free rfl ?_ (by simp));intro c l B;cases c with
  |zero=>simp[AN,AE]at B;subst B;exact⟨undef,rfl,rfl⟩|succ c=>simp at B
 |none=>
  simp[E,AE]at q;subst q;have y:dst=none:=by grind
  subst y;exact⟨g,h⟩
theorem WN(h:Inv F S g a w){ops:Array Oper}{o:Oper}{gd}{b:Bool}(c:Ov ops o.guard gd=true)(B:wanted S gd=some b):Region.wanted o (yielded ops a.tmps)=b:=by
 unfold Region.wanted;unfold Ov at c;split at c;rename_i X;simp only[wanted,AE]at B;rw[X];exact B;rename_i j want s want' X;rw[X];simp[AD,beq_iff_eq]at c;obtain⟨rfl,c⟩:=c;split at c;rename_i oj L;simp[decide_eq_true_eq]at c;simp[wanted]at B;split at B;rename_i bb O;simp[AE]at B;have ⟨G,hv,Z⟩:=h.tms s _ O;have ⟨v,q,e⟩:=h.C6 (.tmp s 0) (.t (.bool bb)) (by simp[St.at,O]);have H:v=.bool bb:=e;have Y:g.tv s=[.bool bb]:=by
  match E:g.tv s,Z with
  | [y],_=>simp[Gh.rv,E]at q;rw[q,H]
 have ht:a.tmps[s]?=some (.bool bb):=by
  have I:s<a.tmps.size:=by rw[h.tsz];exact G
  have J:a.tmps.getD s undef=.bool bb:=by rw[hv,Y];rfl
  rw[H3 I];simp[Array.getD,I,dif_pos]at J;exact congrArg some J
 simp only[yielded,L,Lm,c,ht];rw[<-B];cases bb<;>cases want<;>rfl;rename_i O;simp only[AE]at B;have ⟨G,hv,Z⟩:=h.tms s _ O;have ⟨v,q,e⟩:=h.C6 (.tmp s 0) .und (by simp[St.at,O]);have H:v=undef:=e;have Y:g.tv s=[undef]:=by
  match E:g.tv s,Z with
  | [y],_=>simp[Gh.rv,E]at q;rw[q,H]
 have ht:a.tmps[s]?=some undef:=by
  have I:s<a.tmps.size:=by rw[h.tsz];exact G
  have J:a.tmps.getD s undef=undef:=by rw[hv,Y];rfl
  rw[H3 I];simp[Array.getD,I,dif_pos]at J;exact congrArg some J
 simp[yielded,L,Lm,c,ht];rw[<-B];rfl;cases B;cases c;cases c
end
def AAP(w:World)(R:Blk):V->Value->Prop|.v .one [x],u=>View w R x u|.p cs,u=>W0 w R cs u|_,_=>False
def LA(w:World)(R:Blk)(cs:List T)(us:List Value):Prop:=us.length=cs.length/\∀(c:Nat) x,cs[c]?=some x->∃z,us[c]?=some z/\View w R x z
def pb(w:World)(D:Nat->Blk)(cs:List T)(us:List Value):Prop:=us.length=cs.length/\∀(c:Nat) x,cs[c]?=some x->∃z,us[c]?=some z/\Own w x z (D c)
def dZ(A:Nat->Nat->List Md->Prop)(P:Program)(w:World)(R:Blk)(G:Nat->Blk)(us:List Value)(md:Md)(V:V)(u:Value):Prop:=
 match md,V with
 |.v,.v sh cs=>u=mkV sh us/\LA w R cs us/\∀c b,¬G c b|.v,.f xf caps=>(∃n cv,u=.func (.func n) #[] cv/\Mt A P n xf/\cv.size=caps.length/\∀(i:Nat) V c,caps[i]?=some V->cv[i]?=some c->AAP w R V c)/\∀c b,¬G c b|.p,.p cs=>W0 w R cs u/\∀c b,¬G c b|.b,.b cs=>∃blk E,u=.pointer (some ⟨blk,0,none⟩)/\w.heap[blk]?=some (.cells us.toArray E (0,0))/\LA w R cs us/\∀c b,G c b↔c=0/\b=blk|.o,.o sh cs=>u=mkV sh us/\pb w G cs us/\∀c b,G c b->c<cs.length|.m,.m sh cs=>u=mkV sh us/\pb w G cs us/\∀c b,G c b->c<cs.length|_,_=>False
structure OH(A:Nat->Nat->List Md->Prop)(P:Program)(w:World)(R:Nat->Blk)(G:Nat->Nat->Blk)(U:Nat->List Value)(ms:List Md)(vs:List V)(us:List Value):Prop where
 ADU:vs.length=ms.length
 nJ:us.length=ms.length
 arg:∀(i:Nat) md V u,ms[i]?=some md->vs[i]?=some V->us[i]?=some u->dZ A P w (R i) (G i) (U i) md V u
 rlt:∀i b,R i b->b<w.heap.size
 rg:∀i j c b,R i b->¬G j c b
 gg:∀i c j d b,G i c b->(i≠j\/c≠d)->¬G j d b
 out:∀i c b,G i c b->i<ms.length
def Q5(w':World)(R:Nat->Blk)(Z:Blk)(D:Nat->Nat->Blk)(U:Nat->List Value)(us:List Value):Nat->List Md->List (List T)->Prop|_,[],outs=>outs=[]|i,.b::ms,outs=>∃o os,outs=o::os/\(∃blk us' E,us[i]?=some (.pointer (some ⟨blk,0,none⟩))/\w'.heap[blk]?=some (.cells us'.toArray E (0,0))/\us'.length=(U i).length/\LA w' (λb=>R i b\/Z b) o us')/\Q5 w' R Z D U us (i+1) ms os|i,.m::ms,outs=>∃o os,outs=o::os/\pb w' (D (i+1)) o (U i)/\Q5 w' R Z D U us (i+1) ms os|i,_::ms,outs=>Q5 w' R Z D U us (i+1) ms outs
def qJ(w:World)(ms:List Md)(G:Nat->Nat->Blk)(b:Nat):Prop:=w.heap.size<=b\/∃j d md,ms[j]?=some md/\md.Fl=true/\G j d b
def AXp(N:Blk)(w':World)(R:Nat->Blk)(Z:Blk)(D:Nat->Nat->Blk)(sh:Sh)(cs:List T)(v:Value):Prop:=
 match sh with
 |.ptr k=>∃blk us E,v=.pointer (some ⟨blk,0,none⟩)/\w'.heap[blk]?=some (.cells us.toArray E (0,0))/\LA w' (λb=>R k b\/Z b) cs us/\N blk/\¬Z blk/\∀p c,¬D p c blk|.vw k=>∃x,cs=[x]/\View w' (λb=>R k b\/Z b) x v|.T8 k n=>∃blk us E vs,v=mkV (.T8 k n) (.pointer (some ⟨blk,0,none⟩)::vs)/\w'.heap[blk]?=some (.cells us.toArray E (0,0))/\LA w' (λb=>R k b\/Z b) (cs.take (cs.length-n)) us/\N blk/\¬Z blk/\(∀p c,¬D p c blk) /\
  vs.length=n/\pb w' (D 0) (cs.drop (cs.length-n)) vs
 |sh=>∃us,v=mkV sh us/\pb w' (D 0) cs us
structure pW(w w':World)(R:Nat->Blk)(G:Nat->Nat->Blk)(U:Nat->List Value)(ms:List Md)(us:List Value)(sh:Sh)(cs:List T)(outs:List (List T))(v:Value)(Z:Blk)(D:Nat->Nat->Blk):Prop where
 still:Still w w'
 frame:∀b,b<w.heap.size->(∀i c,¬G i c b)->w'.heap[b]?=w.heap[b]?
 z:∀b,Z b->qJ w ms G b/\b<w'.heap.size
 res:AXp (qJ w ms G) w' R Z D sh cs v
 outs:Q5 w' R Z D U us 0 ms outs
 dd:∀p c q d b,D p c b->(p≠q\/c≠d)->¬D q d b
 dz:∀p c b,D p c b->¬Z b
 df:∀p c b,D p c b->qJ w ms G b
def Ct(A:Nat->Nat->List Md->Prop)(P:Program):Rel:=λf vs sh cs outs=>
 ∀n,Mt A P n f->∀w R G U us,OH A P w R G U (FQ f) vs us ->
  Calls P n us.toArray w λe w'=>∃v Z D,e=.returned v/\pW w w' R G U (FQ f) us sh cs outs v Z D
def T7(ms:List Md)(es:List Ent)(i:Nat):Nat:=(IQ (ms.take i) (es.take i)).length
theorem V8:T7 ms es 0=0:=by simp[T7,IQ]
theorem SO{md}{e}:T7 (md::ms) (e::es) (i+1)=(if md.Fl=true then e.cs.length else 0)+T7 ms es i:=by simp[T7,List.take_succ_cons,IQ,AH];split<;>simp
theorem WK:∀{ms:List Md} {es:List Ent} {i:Nat} {md:Md} {e:Ent} {c:Nat},ms[i]?=some md->es[i]?=some e->md.Fl=true->c<e.cs.length->(IQ ms es)[T7 ms es i+c]?=e.cs[c]?
 | [],_,_,_,_,_,h,_,_,_=>by simp at h|_::_,[],_,_,_,_,_,h,_,_=>by simp at h|j::ms,G::es,0,md,e,c,q,y,B,E=>by grind[List.getElem?_cons_zero,Option.some.injEq,V8,IQ,List.getElem?_append_left]
 |j::ms,G::es,i+1,md,e,c,q,y,B,E=>by have H:=WK (ms:=ms) (es:=es) (i:=i) (c:=c) (by simpa using q) (by simpa using y) B E;grind[SO,IQ,List.getElem?_append_right]
theorem WL:∀{ms:List Md} {es:List Ent} {k:Nat} {l:AS},(IQ ms es)[k]?=some l->∃i md e c,ms[i]?=some md/\es[i]?=some e/\md.Fl=true/\c<e.cs.length/\k=T7 ms es i+c/\e.cs[c]?=some l
 | [],_,_,_,h=>by simp[IQ]at h|_::_,[],_,_,h=>by simp[IQ]at h|H::ms,I::es,k,l,h=>by simp[IQ]at h;split at h;rename_i j;by_cases J:k<I.cs.length;rw[BS J]at h;exact⟨0,H,I,k,rfl,rfl,j,J,by simp[V8],h⟩;rw[BN (by omega)]at h;have ⟨i,md,e,c,q,y,B,E,L,G⟩:=WL h;exact⟨i+1,md,e,c,by simpa using q,by simpa using y,B,E,by rw[SO,AY j];omega,G⟩;next j=>simp[Az]at h;have ⟨i,md,e,c,q,y,B,E,L,G⟩:=WL h;exact⟨i+1,md,e,c,by simpa using q,by simpa using y,B,E,by rw[SO,Aa j];omega,G⟩
def qI(S:St)(md:Md)(e:Ent)(cs:List T)(V:V):Prop:=
 match md with
 |.o=>V=.o e.sh (cs.take e.cs.length)|.m=>V=.m e.sh (cs.take e.cs.length)/\e.cs.all TX=true/\Hz e.sh e.cs.length=true|md=>UB S md e=some V
theorem ADY{S}:∀{ms:List Md} {es:List Ent} {cs:List T} {vs:List V},KK S ms es cs=some vs->vs.length=ms.length/\es.length=ms.length/\∀(i:Nat) md e,ms[i]?=some md->es[i]?=some e->∃V,vs[i]?=some V /\
 qI S md e (cs.drop (T7 ms es i)) V
 | [],[],_,vs,h=>by simp[KK,AE]at h;subst h;simp| [],_::_,_,_,h=>by simp[KK]at h|_::_,[],_,_,h=>by simp[KK]at h|j::ms,B::es,cs,vs,h=>by
  have fin:∀(V0:V) (c:List V) (q:List T),vs=V0::c->KK S ms es q=some c->(∀k,(q.drop k)=cs.drop ((if j.Fl=true then B.cs.length else 0)+k)) ->
   qI S j B cs V0 ->
   vs.length=(j::ms).length/\(B::es).length=(j::ms).length/\∀(i:Nat) md e,(j::ms)[i]?=some md->(B::es)[i]?=some e->∃V,vs[i]?=some V /\
    qI S md e (cs.drop (T7 (j::ms) (B::es) i)) V:=by
   intro V0 c q J I hdrop Y;subst J;have ⟨G,L,O⟩:=ADY I;refine⟨by simp[G],by simp[L],?_⟩;intro i md e y H;cases i with
   |zero=>simp[AN,AE]at y H;subst y H;refine⟨V0,rfl,?_⟩;rw[V8,List.drop_zero];exact Y
   |succ i=>have ⟨V,hV,hV2⟩:=O i md e (by simpa using y) (by simpa using H);refine⟨V,by simpa using hV,?_⟩;rw[SO,<-hdrop];exact hV2
  simp only[KK]at h;cases j with
  |o=>simp at h;split at h;rename_i c E;exact fin _ c _ (Option.some.inj h).symm E (λk=>by simp[Md.Fl,DD,Od]) rfl;cases h
  |m=>simp only at h;split at h;rename_i X;split at h;rename_i c E;exact fin _ c _ (Option.some.inj h).symm E (λk=>by simp[Md.Fl,DD,Od]) ⟨rfl,X⟩;cases h;cases h
  |_=>simp at h;split at h;rename_i v c G E;exact fin _ c _ (Option.some.inj h).symm E (λk=>by simp[Md.Fl]) G;cases h
theorem bD:∀{ms:List Md} {es prev:List Ent},Re prev ms es=false->es.length=ms.length->(∀(i:Nat) md e,ms[i]?=some md->es[i]?=some e->md.writes=true->(∀p∈prev,shares e p=false)/\∀(j:Nat) y,es[j]?=some y->i≠j->shares e y=false)
 | [],_,_,_,_,i,md,e,h,_,_=>by simp at h|_::_,[],_,_,h,_,_,_,_,_,_=>by simp at h|Z::ms,e0::es,prev,E,q,i,md,e,B,I,O=>by
  simp[Re,Ff,Bool.and_eq_false_iff]at E;have ⟨h1,H⟩:=E;have X:=bD H (by simpa using q);cases i with
  |zero=>grind[List.getElem?_cons_zero,Option.some.injEq,List.any_eq_false,List.mem_of_getElem?]
  |succ i=>
   have ⟨G,Y⟩:=X i md e (by simpa using B) (by simpa using I) O;refine⟨λp L=>G p (by simp[L]),?_⟩;intro j y c J;cases j with
   |zero=>simp[AN,AE]at c;subst c;exact G _ (by simp)
   |succ j=>exact Y j y (by simpa using c) (by omega)
theorem IK{e c}(h:shares e c=false){l l'}(q:l∈e.cs)(j:l'∈c.cs):(∀r,l.CA=some r->l'.CA≠some r)/\(∀id∈names l,Gb id l'=false)/\∀id∈names l',Gb id l=false:=by grind[shares,List.any_eq_false,VQ,Bool.or_eq_false_iff]
section
variable{F:Fix}{S S' S1 S2:St}{g g' g1:Gh}{a a':Act}{w w':World}
variable{l:AS}{B:Blk}{cs:List T}{b:Nat}{x:T}{v:Value}
def bxL(F:Fix)(S:St)(g:Gh)(id b:Nat):Prop:=(get S.bx id).isSome/\(b=g.β id\/(∃c,CP S (.cell id c)/\g.fp (.cell id c) b)\/F.K b)
def rdL(F:Fix)(S:St)(g:Gh):AS->Blk|.vw (.old k) _ _|.vp (.old k) _=>F.R k|.al r _|.ep r _ _|.vw (.own r _) _ _|.vp (.own r _) _=>λb=>CP S r/\g.fp r b|.bp id _=>bxL F S g id|.fn f caps=>λb=>F.K b\/∃id∈names (.fn f caps),bxL F S g id b|_=>λ_=>False
theorem tf{l}{b}(h:rdL F S g l b):F.K b\/(∃r,l.CA=some r/\CP S r/\g.fp r b)\/∃id∈names l,(get S.bx id).isSome/\(b=g.β id\/∃c,CP S (.cell id c)/\g.fp (.cell id c) b):=by
 have bx:∀id,id∈names l->bxL F S g id b->F.K b\/(∃r,l.CA=some r/\CP S r/\g.fp r b)\/∃id∈names l,(get S.bx id).isSome/\(b=g.β id\/∃c,CP S (.cell id c)/\g.fp (.cell id c) b):=by rintro id e ⟨q,j|j|j⟩;grind;grind;exact .inl j
 match l,h with
 |.vw (.old k) _ _,h=>exact .inl (F.RK k b h)|.vp (.old k) _,h=>exact .inl (F.RK k b h)|.al r _,h=>exact .inr (.inl ⟨r,rfl,h⟩)|.ep r _ _,h=>exact .inr (.inl ⟨r,rfl,h⟩)|.vw (.own r _) _ _,h=>exact .inr (.inl ⟨r,rfl,h⟩)|.vp (.own r _) _,h=>exact .inr (.inl ⟨r,rfl,h⟩)|.bp id _,h=>exact bx id (by simp[names]) h|.fn f caps,h=>rcases h with h|⟨id,e,h⟩;exact .inl h;exact bx id e h
theorem AZj(h:Inv F S g a w)(B:rdL F S g l b):b<w.heap.size:=by
 have fl:∀r,CP S r->g.fp r b->b<w.heap.size:=by rintro r ⟨x,I⟩ j;have ⟨v,_,y⟩:=h.C6 r _ I;exact Own.lt y b j
 rcases tf B with G|⟨r,_,e,j⟩|⟨id,_,H,rfl|⟨c,e,j⟩⟩;exact BZ (h.rlt b G) h.size;exact fl r e j;have ⟨ls,q⟩:=Bq.1 H;have ⟨⟨E,hE⟩,_⟩:=h.bxs id ls q;exact(BJ.1 hE).1;exact fl _ e j
theorem View.up{B'}(h:View w B x v)(c:∀b,B b->B' b):View w B' x v:=h.mono c λ_ _=>rfl
theorem uP(h:Inv F S g a w){fp}{l}{v}{x}(j:Bz F S g w fp l v)(c:S.IT l=some x)(L:∀y,l≠.ow y):View w (rdL F S g l) x v:=by
 match l,j with
 |.t y,j=>simp[St.IT,AE]at c;subst c;exact .sc j|.al r sub,⟨y,u,E,I,J⟩=>simp[St.IT,E,AE]at c;subst c;have ⟨O,B,q⟩:=h.C6 r _ E;rw[I]at B;cases B;have ⟨S0,hS0,hO⟩:=TV q J;exact hO.view.up λb H=>⟨⟨_,E⟩,hS0 b H⟩
 |.vw (.own r p) e xs,⟨G,⟨S0,hS0,hO⟩,_⟩=>simp[St.IT,AE]at c;subst c;exact hO.view.up λb H=>⟨G,hS0 b H⟩
 |.vw (.old k) e xs,j=>simp[St.IT,AE]at c;subst c;exact j
 |.ow y,_=>exact(L y rfl).elim|.und,_=>simp[St.IT]at c|.ep _ _ _,_=>simp[St.IT]at c|.vp _ _,_=>simp[St.IT]at c|.bp _ _,_=>simp[St.IT]at c|.fn _ _,_=>simp[St.IT]at c
theorem pO{ls}{cs}(h:S.IL ls=some cs):cs.length=ls.length/\∀(c:Nat) x,cs[c]?=some x->∃l,ls[c]?=some l/\S.IT l=some x:=by
 induction ls generalizing cs with
 |nil=>simp[St.IL,AE]at h;subst h;simp|cons l ls e=>grind[St.IL,List.getElem?_cons_zero,Option.some.injEq]
theorem NA{k}{ls}{cs}(h:F6 k ls=some cs):cs.length=ls.length/\(∀(c:Nat) x,cs[c]?=some x->∃l,ls[c]?=some l/\Ra k l=some x)/\∀l∈ls,∃x,Ra k l=some x:=by
 induction ls generalizing cs with
 |nil=>simp[F6,AE]at h;subst h;simp|cons l ls e=>grind[F6,List.getElem?_cons_zero,Option.some.injEq]
theorem qO{k}(h:Ra k l=some x):l=.t x\/∃e xs,l=.vw (.old k) e xs/\x=.sl e xs:=by unfold Ra at h;grind
theorem Vi{k}{fp}(h:Ra k l=some x)(c:Bz F S g w fp l v):View w (F.R k) x v:=by rcases qO h with rfl|⟨e,xs,rfl,rfl⟩;exact .sc c;exact c
theorem ANk{ls}(h:Qy ls=true):∀l∈ls,l.CA=none:=by
 induction ls with
 |nil=>simp|cons l ls c=>grind[Qy,Option.isNone_iff_eq_none]
theorem qQ(h:Inv F S g a w){id off:Nat}{ls:List AS}(B:get S.bx id=some ls)(Y:Qy ls=true)(L:S.IL (ls.drop off)=some cs) :
 W0 w (bxL F S g id) cs (.pointer (some ⟨g.β id,off,none⟩)):=by
 have ⟨h1,X⟩:=pO L;have ⟨⟨E,hE⟩,O⟩:=h.bxs id ls B;refine⟨⟨g.β id,off,none⟩,λj=>(g.bv id).getD (off+j) undef,rfl,rfl,?_⟩;intro j x Z;have ⟨l,G,c⟩:=X j x Z;rw[Bw]at G;have ⟨v,L,q⟩:=h.C6 (.cell id (off+j)) l (by simp[St.at,B,G]);have J:(g.bv id)[off+j]?=some v:=L;have I:(g.bv id).getD (off+j) undef=v:=by simp[List.getD,J]
 have hsome:(get S.bx id).isSome:=by simp[B]
 refine⟨⟨hsome,.inl rfl⟩,?_,?_⟩;grind[World.cell?];show View w (bxL F S g id) x ((g.bv id).getD (off+j) undef);rw[I];have hroot:=ANk Y l (A4 G);match l,q,c with
 |.t y,q,c=>simp[St.IT,AE]at c;subst c;exact .sc q|.ow y,q,c=>simp[St.IT,AE]at c;subst c;have hO:Own w y v (g.fp (.cell id (off+j))):=q;exact hO.view.up λb H=>⟨hsome,.inr (.inl ⟨off+j,⟨y,by simp[St.at,B,G]⟩,H⟩)⟩
 |.vw (.old k) e xs,q,c=>simp[St.IT,AE]at c;subst c;have hV:View w (F.R k) (.sl e xs) v:=q;exact hV.up λb H=>⟨hsome,.inr (.inr (F.RK k b H))⟩
 |.vw (.own r _) _ _,_,_=>cases hroot
 |.al r _,_,_=>cases hroot
 |.und,_,c=>simp[St.IT]at c|.ep _ _ _,_,_=>cases hroot
 |.vp _ _,_,c=>simp[St.IT]at c|.bp _ _,_,c=>simp[St.IT]at c|.fn _ _,_,c=>simp[St.IT]at c
theorem W0.up{B'}(h:W0 w B cs v)(e:∀b,B b->B' b):W0 w B' cs v:=by have ⟨ad,c,q,y,E⟩:=h;exact⟨ad,c,q,y,λj x G=>let ⟨H,I,J⟩:=E j x G;⟨e _ H,I,J.up e⟩⟩
theorem ALO.Acr(h:ALO w B cs v):W0 w B cs v:=by have ⟨ad,c,f,e,q,y⟩:=h;exact⟨ad,c,e,q,λj x E=>let ⟨G,H,I,J⟩:=y j x E;⟨G,H,J.view.up I⟩⟩
theorem ALZ{ls}{cs}(h:iM S ls=some cs):cs.length=ls.length/\∀(c:Nat) x,cs[c]?=some x->∃l,ls[c]?=some l/\ALY S l=some x:=by
 induction ls generalizing cs with
 |nil=>simp[iM,AE]at h;subst h;simp|cons l ls e=>grind[iM,List.getElem?_cons_zero,Option.some.injEq]
theorem AYq(h:Inv F S g a w){f}{caps}{V}{c}(G:l∈caps)(j:ALY S l=some V)(q:GA F g w l c):AAP w (rdL F S g (.fn f caps)) V c:=by unfold ALY at j;split at j;cases j;exact .sc q;rename_i k e xs;cases j;have hV:View w (F.R k) (.sl e xs) c:=q;exact hV.up λb y=>.inl (F.RK k b y);rename_i id off;split at j;rename_i ls E;split at j;rename_i H;rw[AM]at j;obtain⟨cs,B,rfl⟩:=j;have I:c=_:=q;subst I;refine(qQ h E H B).up λb y=>.inr ⟨id,?_,y⟩;simp[names,List.mem_filterMap];exact⟨_,G,rfl⟩;cases j;cases j;rename_i k cs;cases j;have hV:W0 w (F.R k) cs c:=q;exact hV.up λb y=>.inl (F.RK k b y);cases j
def ue(F:Fix)(S:St)(g:Gh)(md:Md)(e:Ent)(b:Nat):Prop:=
 match md with
 |.v|.p=>∃l∈e.cs,rdL F S g l b|.b=>match e with
  |⟨.one,[.bp id 0]⟩=>match get S.bx id with|some ls=>F.R (Df ls) b|none=>False
  |_=>False
 |_=>False
theorem Zw{e}{l}{v}(h:Rd F S g w e v)(E:e=⟨.one,[l]⟩):Bz F S g w (λ_=>False) l v:=by
 subst E;have ⟨vs,y,G,H,B⟩:=h;have ⟨u,q,j⟩:=B 0 l rfl;cases vs with
 |nil=>simp at q|cons z zs=>simp[AN,AE]at q;subst q;have c:v=z:=y;rw[c];exact j
theorem AWA(h:Inv F S g a w){md:Md}{e:Ent}{V:V}{u:Value}{us:List Value}{G:Nat->Blk}(j:UB S md e=some V)(hr:Rd F S g w e u)
 (hus:md≠.b->u=mkV e.sh us/\us.length=e.cs.length/\(∀x,AS.ow x∉e.cs)/\∀(c:Nat) (l:AS),e.cs[c]?=some l->∃u,us[c]?=some u/\Bz F S g w (λ_=>False) l u)
 (hub:∀id,md=.b->e=⟨.one,[.bp id 0]⟩->us=g.bv id) (hG:md≠.b->∀c b,¬G c b) (hGb:∀id,md=.b->e=⟨.one,[.bp id 0]⟩->∀c b,G c b↔c=0/\b=g.β id) :
 dZ F.A F.P w (ue F S g md e) G us md V u:=by
 unfold UB at j;split at j;split at j;rename_i f caps;split at j;rename_i cs H;cases j;have ⟨n,cv,k1,k2,k3,k4⟩:=Zw hr rfl;have ⟨q1,q2⟩:=ALZ H;refine⟨⟨n,cv,k1,k2,by rw[k3,q1],?_⟩,hG (by simp)⟩;intro i V c hV O;have ⟨l,L,X⟩:=q2 i V hV;have:=AYq h (f:=f) (A4 L) X (k4 i l c L O);have up:∀{B B':Blk},AAP w B V c->(∀b,B b->B' b)->AAP w B' V c:=by intro B B' O q;unfold AAP at O ⊢;split at O;exact O.up q;exact O.up q;exact O.elim
 exact up this λb q=>⟨.fn f caps,by simp,q⟩
 cases j;split at j;rename_i cs H;cases j;have ⟨k1,k2,k3,k4⟩:=hus (by simp);have ⟨q1,q2⟩:=pO H;refine⟨k1,⟨by rw[k2,q1],?_⟩,hG (by simp)⟩;intro c x hx;have ⟨l,L,hvt⟩:=q2 c x hx;have ⟨z,hz,I⟩:=k4 c l L;exact⟨z,hz,(uP h I hvt (by rintro y rfl;exact k3 y (A4 L))).up λb q=>⟨l,A4 L,q⟩⟩;cases j;split at j;rename_i id off;split at j;rename_i ls J;split at j;rename_i hs;split at j;rename_i cs H;cases j;have hu:u=_:=Zw hr rfl;subst hu;exact⟨(qQ h J hs H).up λb q=>⟨.bp id off,by simp,q⟩,hG (by simp)⟩;cases j;cases j;cases j;next s cs=>cases j;have I:=Zw hr rfl;refine⟨?_,hG (by simp)⟩;cases s with
 |own r p=>have ⟨hal,hO⟩:=I;exact hO.Acr.up λb q=>⟨.vp (.own r p) cs,by simp,hal,q⟩
 |old k=>have hV:W0 w (F.R k) cs u:=I;exact hV.up λb q=>⟨.vp (.old k) cs,by simp,q⟩
 cases j;split at j;rename_i id;split at j;rename_i ls J;split at j;next cs H=>cases j;have hu:u=_:=Zw hr rfl;subst hu;have ⟨⟨E,hE⟩,Y⟩:=h.bxs id ls J;have Z:=hub id rfl rfl;subst Z;have ⟨q1,q2,_⟩:=NA H;refine⟨g.β id,E,rfl,hE,⟨by rw[Y,q1],?_⟩,hGb id rfl rfl⟩;intro c x hx;have ⟨l,L,q⟩:=q2 c x hx;have ⟨v,j,I⟩:=h.C6 (.cell id c) l (by simp[St.at,J,L]);refine⟨v,j,?_⟩;exact(Vi q I).up λb q=>by simp[ue,J];exact q
 cases j;cases j;cases j;cases j
theorem gq{r r':CN}(c:S.at r=some (.ow x))(h:S.at r'=some (.t .top)):(S.out r).at r'=some (.t .top):=by rw[St.out,IZ,FR c];split<;>simp[h,NP,AS.CA]
theorem Zz{r:CN}(c:S.at r=some (.ow x)):(S.out r).at r=some (.t .top):=by rw[St.out,IZ,FR c];simp[NP,AS.CA]
theorem VK:∀{ls:List AS} {S S':St} {cs:List T},D5 S ls=some (S',cs)->(∀r,S.at r=some (.t .top)->S'.at r=some (.t .top))/\∀r sub,AS.al r sub∈ls->S'.at r=some (.t .top)
 | [],S,S',cs,h=>by simp[D5,AE,BC]at h;obtain⟨rfl,rfl⟩:=h;exact⟨λ_ h=>h,by simp⟩
 |l::ls,S,S',cs,h=>by
  cases l with
  |t x=>simp only[D5]at h;split at h;cases h;split at h;rename_i S1 G c;simp[AE,BC]at h;obtain⟨rfl,rfl⟩:=h;have ⟨E,H⟩:=VK c;exact⟨E,λr sub B=>H r sub (by simpa using B)⟩;cases h
  |al r sub=>
   simp[D5]at h;split at h;rename_i x I;split at h;rename_i S1 G c;simp[AE,BC]at h;obtain⟨rfl,rfl⟩:=h;have ⟨E,H⟩:=VK c;refine⟨λr' y=>E r' (gq I y),λr' sub' B=>?_⟩;rcases Ae.1 B with B|B;cases B;exact E r (Zz I);exact H r' sub' B;cases h;cases h
  |vw s e xs=>
   cases s with
   |old k=>simp[D5]at h|own r p=>
    cases p with
    |none=>simp[D5]at h;split at h;rename_i x I;split at h;rename_i S1 G c;simp[AE,BC]at h;obtain⟨rfl,rfl⟩:=h;have ⟨E,H⟩:=VK c;exact⟨λr' y=>E r' (gq I y),λr' sub' B=>H r' sub' (by simpa using B)⟩;cases h;cases h
    |some q=>
     have ⟨i,j⟩:=q;simp only[D5]at h;split at h;cases h;split at h;rename_i S1 L;split at h;rename_i S2 G c;simp[AE,BC]at h;obtain⟨rfl,rfl⟩:=h;have ⟨E,H⟩:=VK c;obtain⟨O,rows,I,rfl⟩:=QA L;refine⟨λr' y=>E r' ?_,λr' sub' B=>H r' sub' (by simpa using B)⟩;rw[Qw I];have J:r'≠r:=by rintro rfl;rw[I]at y;cases y
     simp[J,y,GS];cases h;cases h
  |_=>simp[D5]at h
theorem Lq:∀{ls:List AS} {S S':St} {cs:List T},D5 S ls=some (S',cs)->∀r,S.at r=some (.t .top)->∀l∈ls,l.CA≠some r
 | [],_,_,_,_=>by simp|l::ls,S,S',cs,h=>by
  intro r E l' c;cases l with
  |t x=>
   simp only[D5]at h;split at h;cases h;split at h;rename_i S1 G y;rcases Ae.1 c with rfl|c;simp[AS.CA];exact Lq y r E l' c;cases h
  |al r' sub=>
   simp[D5]at h;split at h;rename_i x B;split at h;rename_i S1 G y;rcases Ae.1 c with rfl|c;intro H;cases H;rw[E]at B;cases B;exact Lq y r (gq B E) l' c;cases h;cases h
  |vw s e xs=>
   cases s with
   |old k=>simp[D5]at h|own r' p=>
    cases p with
    |none=>
     simp[D5]at h;split at h;rename_i x B;split at h;rename_i S1 G y;rcases Ae.1 c with rfl|c;intro H;cases H;rw[E]at B;cases B;exact Lq y r (gq B E) l' c;cases h;cases h
    |some q=>
     have ⟨i,j⟩:=q;simp only[D5]at h;split at h;cases h;split at h;rename_i S1 J;split at h;rename_i S2 G y;obtain⟨L,rows,B,rfl⟩:=QA J;rcases Ae.1 c with rfl|c;intro H;cases H;rw[E]at B;cases B;refine Lq y r ?_ l' c;rw[Qw B];have I:r≠r':=by rintro rfl;rw[B]at E;cases E
     simp[I,E,GS];cases h;cases h
  |_=>simp[D5]at h
def AVx(l l':AS):Prop:=∀r,l.CA=some r->l'.CA≠some r
theorem SQ:∀{ls:List AS} {S S':St} {cs:List T},D5 S ls=some (S',cs)->ls.Pairwise AVx
 | [],_,_,_,_=>.nil|l::ls,S,S',cs,h=>by
  cases l with
  |t x=>simp only[D5]at h;split at h;cases h;split at h;rename_i S1 B c;exact .cons (λl' _ r E=>by cases E) (SQ c);cases h
  |al r' sub=>simp[D5]at h;split at h;rename_i x H;split at h;rename_i S1 B c;refine .cons (λl' y r E=>?_) (SQ c);cases E;exact Lq c _ (Zz H) l' y;cases h;cases h
  |vw s e xs=>
   cases s with
   |old k=>simp[D5]at h|own r' p=>
    cases p with
    |none=>simp[D5]at h;split at h;rename_i x H;split at h;rename_i S1 B c;refine .cons (λl' y r E=>?_) (SQ c);cases E;exact Lq c _ (Zz H) l' y;cases h;cases h
    |some q=>have ⟨i,j⟩:=q;simp only[D5]at h;split at h;cases h;next G=>split at h;split at h;rename_i S2 B c;refine .cons (λl' y r E=>?_) (SQ c);cases E;exact zK (by simpa using G) l' y;cases h;cases h
  |_=>simp[D5]at h
theorem SS:∀{ls:List AS} {S S':St} {cs:List T},D5 S ls=some (S',cs)->∀{r:CN} {x:T},(∀l∈ls,l.CA≠some r)->S.at r=some (.ow x)->S'.at r=some (.ow x)
 | [],S,S',cs,h,r,x,_,H=>by simp[D5,AE,BC]at h;obtain⟨rfl,rfl⟩:=h;exact H
 |l::ls,S,S',cs,h,r,x,J,H=>by
  have B:∀l∈ls,l.CA≠some r:=λl O=>J l (by simp[O]);cases l with
  |t y=>simp only[D5]at h;split at h;cases h;split at h;rename_i S1 G c;simp[AE,BC]at h;obtain⟨rfl,rfl⟩:=h;exact SS c B H;cases h
  |al r' sub=>
   have E:r≠r':=by rintro rfl;exact J (.al r sub) (by simp) rfl
   simp[D5]at h;split at h;rename_i y I;split at h;rename_i S1 G c;simp[AE,BC]at h;obtain⟨rfl,rfl⟩:=h;exact SS c B (AHE I E H);cases h;cases h
  |vw s e xs=>
   cases s with
   |old k=>simp[D5]at h|own r' p=>
    have E:r≠r':=by rintro rfl;exact J (.vw (.own r p) e xs) (by simp) rfl
    cases p with
    |none=>simp[D5]at h;split at h;rename_i y I;split at h;rename_i S1 G c;simp[AE,BC]at h;obtain⟨rfl,rfl⟩:=h;exact SS c B (AHE I E H);cases h;cases h
    |some q=>have ⟨i,j⟩:=q;simp only[D5]at h;split at h;cases h;split at h;rename_i S1 L;split at h;rename_i S2 G c;simp[AE,BC]at h;obtain⟨rfl,rfl⟩:=h;obtain⟨X,rows,I,rfl⟩:=QA L;exact SS c B (by rw[Qw I,Aa E,H];rfl);cases h;cases h
  |_=>simp[D5]at h
theorem SR:∀{ls:List AS} {S S':St} {cs:List T},D5 S ls=some (S',cs)->∀{r:CN} {i j e:Nat} {xs:List (List T)},AS.vw (.own r (some (i,j))) e xs∈ls->∃G rows,S'.at r=some (.ow (.sl G rows))
 | [],S,S',cs,h,r,i,j,e,xs,B=>by simp at B|l::ls,S,S',cs,h,r,i,j,e,xs,B=>by
  cases l with
  |t y=>simp only[D5]at h;split at h;cases h;split at h;rename_i S1 E c;simp[AE,BC]at h;obtain⟨rfl,rfl⟩:=h;exact SR c (by simpa using B);cases h
  |al r' sub=>simp[D5]at h;split at h;rename_i y J;split at h;rename_i S1 E c;simp[AE,BC]at h;obtain⟨rfl,rfl⟩:=h;exact SR c (by simpa using B);cases h;cases h
  |vw s O L=>
   cases s with
   |old k=>simp[D5]at h|own r' p=>
    cases p with
    |none=>simp[D5]at h;split at h;rename_i y J;split at h;rename_i S1 E c;simp[AE,BC]at h;obtain⟨rfl,rfl⟩:=h;exact SR c (by simpa using B);cases h;cases h
    |some q=>
     have ⟨X,Y⟩:=q;simp only[D5]at h;split at h;cases h;next H=>split at h;rename_i S1 I;split at h;rename_i S2 E c;simp[AE,BC]at h;obtain⟨rfl,rfl⟩:=h;rcases Ae.1 B with B|B;cases B;obtain⟨G,rows,J,rfl⟩:=QA I;exact⟨G,_,SS c (zK (by simpa using H)) (by rw[Qw J,AY rfl];rfl)⟩;exact SR c B;cases h;cases h
  |_=>simp[D5]at h
theorem uH:∀{ms:List Md} {es:List Ent} {i:Nat} {md:Md} {e:Ent},ms[i]?=some md->es[i]?=some e->md.Fl=true->List.Sublist e.cs (IQ ms es)
 | [],_,_,_,_,h,_,_=>by simp at h|_::_,[],_,_,_,_,h,_=>by simp at h|c::ms,B::es,0,md,e,j,q,y=>by grind[List.getElem?_cons_zero,Option.some.injEq,IQ,List.sublist_append_left]
 |c::ms,B::es,i+1,md,e,j,q,y=>by simp[IQ];exact(uH (i:=i) (by simpa using j) (by simpa using q) y).trans (List.sublist_append_right _ _)
structure Blank(S S2:St)(ms:List Md)(es:List Ent):Prop where
 tm:S2.tm=S.tm
 pin:S2.pin=S.pin
 bx:∀id ls',get S2.bx id=some ls'->∃ls,get S.bx id=some ls/\ls'.length=ls.length
 ow:∀r x,S2.at r=some (.ow x)↔S.at r=some (.ow x)
 top:∀r,S.at r=some (.t .top)->S2.at r=some (.t .top)
 all:∀(i:Nat) id,ms[i]?=some Md.b->es[i]?=some ⟨.one,[.bp id 0]⟩->∀ls,get S2.bx id=some ls->∀l∈ls,l=.t .top
theorem iJ:∀(ms:List Md) (es:List Ent) (S:St),Inv F S g a w->(∀(i:Nat) id,ms[i]?=some Md.b->es[i]?=some ⟨.one,[.bp id 0]⟩->∀c,¬CP S (.cell id c))->Inv F (FT S ms es) g a w/\Blank S (FT S ms es) ms es
 | [],es,S,h,_=>by
  have:FT S [] es=S:=by cases es<;>rfl
  rw[this];exact⟨h,rfl,rfl,λ_ ls hl=>⟨ls,hl,rfl⟩,λ_ _=>Iff.rfl,λ_ h=>h,by intro i id H;simp at H⟩
 |md::ms,[],S,h,_=>by exact⟨h,rfl,rfl,λ_ ls hl=>⟨ls,hl,rfl⟩,λ_ _=>Iff.rfl,λ_ h=>h,by intro i id _ H;simp at H⟩
 |md::ms,e::es,S,h,hb=>by
  have hb':∀(i:Nat) id,ms[i]?=some Md.b->es[i]?=some ⟨.one,[.bp id 0]⟩->∀c,¬CP S (.cell id c):=λi id h1 B=>hb (i+1) id (by simpa using h1) (by simpa using B);have pass:(∀id,md=.b->e=⟨.one,[.bp id 0]⟩->get S.bx id=none)->Inv F (FT S ms es) g a w/\Blank S (FT S ms es) (md::ms) (e::es):=by
   intro hno;have ⟨h1,B⟩:=iJ ms es S h hb';refine⟨h1,B.tm,B.pin,B.bx,B.ow,B.top,?_⟩;intro i id H G ls y;cases i with
   |zero=>simp[AN,AE]at H G;have ⟨ls0,h0,_⟩:=B.bx id ls y;rw[hno id H G]at h0;cases h0
   |succ i=>exact B.all i id (by simpa using H) (by simpa using G) ls y
  simp[FT];split;split;rename_i id;split;rename_i ls y;have hdead:=hb 0 id rfl rfl;let S1:St:={ S with bx:=put S.bx id (ls.map λ_=>AS.t .top)}
  have I:∀r,S1.at r=match r with|.cell b c=>if b=id then (ls.map λ_=>AS.t .top)[c]? else S.at (.cell b c)|.tmp s c=>S.at (.tmp s c):=Nb
  have X:∀r x,S1.at r=some (.ow x)↔S.at r=some (.ow x):=by
   intro r x;rw[I];cases r with
   |tmp s c=>exact Iff.rfl|cell b c=>by_cases E:b=id;subst E;simp only[if_true];constructor;intro Z;rw[A0,AM]at Z;have ⟨_,_,Z⟩:=Z;cases Z;intro Z;exact absurd ⟨x,Z⟩ (hdead c);simp[E]
  have hI:Inv F S1 g a w:=by
   refine h.weaken (λs e' he'=>⟨e',he',rfl,rfl⟩) ?_ ?_ rfl;intro q ls' j;have:get (put S.bx id (ls.map λ_=>AS.t .top)) q=some ls':=j;rw[GQ]at this;split at this;rename_i L;subst L;cases this;exact⟨ls,y,by simp⟩;exact⟨ls',this,rfl⟩;intro r l' j;have key:∀J x,S.at J=some (.ow x)->S1.at J=some (.ow x):=λJ x Y=>(X J x).2 Y;rw[I]at j;cases r with
   |tmp s c=>exact .inr ⟨j,λJ x _ Y=>key J x Y⟩|cell b c=>by_cases E:b=id;subst E;simp only[if_true]at j;rw[A0,AM]at j;obtain⟨l0,h0,rfl⟩:=j;exact .inl ⟨rfl,by simp[St.at,y,h0]⟩;simp[Aa E]at j;exact .inr ⟨j,λJ x _ Y=>key J x Y⟩
  have ⟨h1,B⟩:=iJ ms es S1 hI (by intro i q H G c hal;have ⟨x,Y⟩:=hal;exact hb' i q H G c ⟨x,(X _ x).1 Y⟩);have htop:∀r,S.at r=some (.t .top)->S1.at r=some (.t .top):=by
   intro r hr;rw[I];cases r with
   |tmp s c=>exact hr|cell b c=>by_cases E:b=id;subst E;simp[St.at,y]at hr;simp[hr];simp[Aa E];exact hr
  have hbx:∀q ls',get S1.bx q=some ls'->∃ls,get S.bx q=some ls/\ls'.length=ls.length:=by intro q ls' j;have:get (put S.bx id (ls.map λ_=>AS.t .top)) q=some ls':=j;rw[GQ]at this;split at this;rename_i L;subst L;cases this;exact⟨ls,y,by simp⟩;exact⟨ls',this,rfl⟩
  refine⟨h1,B.tm,B.pin,?_,λr x=>(B.ow r x).trans (X r x),λr hr=>B.top r (htop r hr),?_⟩;intro q ls' j;have ⟨l1,k1,k2⟩:=B.bx q ls' j;have ⟨l0,k3,k4⟩:=hbx q l1 k1;exact⟨l0,k3,k2.trans k4⟩;intro i q H G ls' j l hl;cases i with
  |zero=>
   simp[AN,AE]at G;cases G;have ⟨l1,k1,k2⟩:=B.bx id ls' j;have hg:get S1.bx id=some (ls.map λ_=>AS.t .top):=by show get (put S.bx id (ls.map λ_=>AS.t .top)) id=_;rw[GQ,AY rfl]
   rw[hg]at k1;cases k1;have ⟨c,hc⟩:=B0 hl;have hlt:c<ls'.length:=(AO.1 hc).1;have h3:S1.at (.cell id c)=some (.t .top):=by
    rw[I];simp[if_true];have hc0:c<ls.length:=by rw[k2]at hlt;simpa using hlt
    simp[hc0]
   have h4:=B.top _ h3;have hl2:get (FT S1 ms es).bx id=some ls':=j;simp[St.at,hl2,hc,AE]at h4;exact h4
  |succ i=>exact B.all i q (by simpa using H) (by simpa using G) ls' j l hl
  next y=>exact pass λq _ G=>by cases G;exact y
  rename_i O;exact pass λq _ G=>absurd G (O q);next O=>exact pass λq H _=>absurd H O
def AcI(F:Fix)(S S2:St)(g:Gh)(w:World)(R:Nat->Blk)(G:Nat->Nat->Blk)(U:Nat->List Value)(us:List Value)(i:Nat)(md:Md)(e:Ent):Prop:=
 (match md with
 |.b=>∃id ls,e=⟨.one,[.bp id 0]⟩/\get S.bx id=some ls/\R i=F.R (Df ls)/\U i=g.bv id/\(∀c b,G i c b↔c=0/\b=g.β id)/\us[i]?=some (.pointer (some ⟨g.β id,0,none⟩)) /\
  (∀ls,get S2.bx id=some ls->∀l∈ls,l=.t .top)
 |.m=>(U i).length=e.cs.length/\e.cs.Pairwise AVx/\∀(c:Nat) l,e.cs[c]?=some l->TX l=true/\∃z,(U i)[c]?=some z/\Bz F S g w (λ_=>False) l z/\(∀r sub,l=.al r sub->S2.at r=some (.t .top)) /\
  ∀r p e xs,l=.vw (.own r (some p)) e xs->CP S2 r
 |_=>True)/\(md≠.p->∀lab,nG S e=some lab->∀b,R i b->F.R lab b)
def qF(S:St)(g:Gh)(ms:List Md)(es:List Ent)(b:Nat):Prop:=
 ∃(i:Nat) (md:Md) (e:Ent),ms[i]?=some md/\es[i]?=some e/\md.writes=true/\((∃id,e=⟨.one,[.bp id 0]⟩/\(get S.bx id).isSome/\b=g.β id)\/∃l r,l∈e.cs/\l.CA=some r/\CP S r/\g.fp r b)
theorem ALD:∀(es:List Ent) (us:List Value),us.length=es.length->(∀(i:Nat) e,es[i]?=some e->∃u,us[i]?=some u/\Rd F S g w e u) ->
 ∃Us:List (List Value),Us.length=es.length/\∀(i:Nat) e,es[i]?=some e->∃u xs,us[i]?=some u/\Us[i]?=some xs/\u=mkV e.sh xs/\xs.length=e.cs.length/\(∀x,AS.ow x∉e.cs) /\
  ∀(c:Nat) (l:AS),e.cs[c]?=some l->∃z,xs[c]?=some z/\Bz F S g w (λ_=>False) l z
 | [],us,q,_=>⟨[],rfl,by simp⟩|e::es,[],q,_=>by simp at q|e::es,u::us,q,h=>by
  have ⟨Us,E,G⟩:=ALD es us (by simpa using q) (λi e H=>by simpa using h (i+1) e (by simpa using H));have ⟨X,j,vs,I,J,L,O⟩:=h 0 e rfl;simp[AN,AE]at j;subst j;refine⟨vs::Us,by simp[E],?_⟩;intro i B y;cases i with
  |zero=>grind[List.getElem?_cons_zero,Option.some.injEq]
  |succ i=>simpa using G i B (by simpa using y)
theorem AEc:∀(ms:List Md) (es:List Ent) (Us:List (List Value)),es.length=ms.length->Us.length=es.length->(∀(i:Nat) e xs,es[i]?=some e->Us[i]?=some xs->xs.length=e.cs.length) ->
 ∃lv:List Value,lv.length=(IQ ms es).length/\∀(i:Nat) md e xs c,ms[i]?=some md->es[i]?=some e->Us[i]?=some xs->md.Fl=true->c<e.cs.length->lv[T7 ms es i+c]?=xs[c]?
 | [],_,_,_,_,_=>⟨[],by simp[IQ],by simp⟩|_::_,[],_,h,_,_=>by simp at h|_::_,_::_,[],_,h,_=>by simp at h|md::ms,e::es,xs::Us,J,L,G=>by
  have ⟨lv,Y,Z⟩:=AEc ms es Us (by simpa using J) (by simpa using L) (λi e xs j q=>G (i+1) e xs (by simpa using j) (by simpa using q));have X:=G 0 e xs rfl rfl;refine⟨(if md.Fl=true then xs else [])++lv,?_,?_⟩;simp[IQ,AH,Y];split<;>simp[X];intro i B I E c y j q H O;cases i with
  |zero=>simp[AN,AE]at y j q;subst y j q;rw[V8,AY H,A1,BS (by omega)]
  |succ i=>have:=Z i B I E c (by simpa using y) (by simpa using j) (by simpa using q) H O;rw[<-this,SO];split;rw[BN (by omega)];congr 1;omega;simp
theorem AS5{e}{lab}(h:nG S e=some lab)(y:∀id off,e≠⟨.one,[.bp id off]⟩)(q:l∈e.cs)(j:rdL F S g l b):F.R lab b:=by unfold nG at h;split at h;grind;split at h;rename_i B;cases h;have ⟨cs,c⟩:=Bq.1 B;have ⟨x,E⟩:=(NA c).2.2 l q;rcases qO E with rfl|⟨G,xs,rfl,_⟩;exact j.elim;exact j;cases h
theorem iD{md}{e}(h:ue F S g md e b):(md.writes=false/\∃l∈e.cs,rdL F S g l b)\/F.K b:=by unfold ue at h;split at h;exact .inl ⟨rfl,h⟩;exact .inl ⟨rfl,h⟩;split at h;split at h;exact .inr (F.RK _ b h);exact h.elim;exact h.elim;exact h.elim
set_option maxHeartbeats 2000000 in
theorem AWB(h:Inv F S g a w){ms:List Md}{es:List Ent}{us:List Value}{vs:List V}(hrd:∀(i:Nat) e,es[i]?=some e->∃u,us[i]?=some u/\Rd F S g w e u)(hlen:us.length=es.length)(hcl:Re [] ms es=false)
 (ha:Xz S ms es=some (S2,vs)) :
 ∃R G U g1,Ju F S S2 g g1 a w/\OH F.A F.P w R G U ms vs us/\(∀i c b md,ms[i]?=some md->md.Fl=true->G i c b->EV F S2 g1 b) /\
  (∀(i:Nat) md e,ms[i]?=some md->es[i]?=some e->AcI F S S2 g w R G U us i md e)/\(∀i c b,G i c b->qF S g ms es b)/\es.length=ms.length:=by
 unfold Xz at ha;split at ha;rename_i S1 cs hown;split at ha;rename_i vs' hmk;simp only[AE,BC]at ha;obtain⟨rfl,rfl⟩:=ha;have ⟨hvl,hel,hget⟩:=ADY hmk;have ⟨Us,hUl,hU⟩:=ALD (F:=F) (S:=S) (g:=g) (w:=w) es us hlen hrd;have ⟨lv,hlv,hlvg⟩:=AEc ms es Us hel hUl (by intro i e xs q hx;have ⟨u,xs',_,Y,_,h4,_⟩:=hU i e q;rw[hx]at Y;cases Y;exact h4);have hclash:=bD hcl hel;have ⟨g1,hT,nf,⟨t1,t2,t3,t4,t5,t6⟩,hnf⟩:=WA h (ls:=IQ ms es) (vs:=lv) (by
  intro x hx;have ⟨k,hk⟩:=B0 hx;have ⟨i,md,e,c,h1,Y,h3,h4,h5,h6⟩:=WL hk;have ⟨u,xs,_,_,_,_,hno,_⟩:=hU i e Y;exact hno x (A4 h6)) hlv (by
  intro k l hk;obtain⟨i,md,e,c,h1,Y,h3,h4,rfl,h6⟩:=WL hk;have ⟨u,xs,_,X,_,_,_,hok⟩:=hU i e Y;have ⟨z,hz,hl⟩:=hok c l h6;refine⟨z,?_,λ_ _ _=>hl,λ_=>hl⟩;rw[hlvg i md e xs c h1 Y X h3 h4];exact hz) hown
 have htop:=(VK hown).2;have hbare:∀(i:Nat) id,ms[i]?=some Md.b->es[i]?=some ⟨.one,[.bp id 0]⟩->∃ls,get S.bx id=some ls/\∃cs,F6 (Df ls) ls=some cs:=by intro i id B q;have ⟨V,_,hV⟩:=hget i _ _ B q;simp only[qI,UB]at hV;split at hV;rename_i ls H;split at hV;rename_i cs hcs;exact⟨ls,H,cs,hcs⟩;cases hV;cases hV
 have hdead:∀(i:Nat) id,ms[i]?=some Md.b->es[i]?=some ⟨.one,[.bp id 0]⟩->∀c,¬CP S (.cell id c):=by rintro i id B q c ⟨x,hx⟩;have ⟨ls,H,cs,hcs⟩:=hbare i id B q;simp only[St.at,H]at hx;have ⟨y,hy⟩:=(NA hcs).2.2 _ (A4 hx);simp[Ra]at hy
 have ⟨hB,hBl⟩:=iJ ms es S1 hT.inv (λi id B q c Z=>hdead i id B q c (hT.al _ Z));have hbox:∀(i:Nat) e,ms[i]?=some Md.b->es[i]?=some e->∃id,e=⟨.one,[.bp id 0]⟩:=by intro i e B q;have ⟨V,_,hV⟩:=hget i _ _ B q;simp only[qI,UB]at hV;split at hV;rename_i id;exact⟨id,rfl⟩;cases hV
 let G:Nat->Nat->Blk:=λi c b=>match ms[i]?,es[i]? with|some .b,some e=>c=0/\∃id,e=⟨.one,[.bp id 0]⟩/\b=g.β id|some .o,some e=>c<e.cs.length/\nf (T7 ms es i+c) b|some .m,some e=>c<e.cs.length/\nf (T7 ms es i+c) b|_,_=>False
 let R:Nat->Blk:=λi=>match ms[i]?,es[i]? with|some md,some e=>ue F S g md e|_,_=>λ_=>False
 let U:Nat->List Value:=λi=>match ms[i]?,es[i]? with|some .b,some ⟨.one,[.bp id 0]⟩=>g.bv id|_,_=>Us.getD i []
 have hGt:∀{i c b md e},ms[i]?=some md->es[i]?=some e->md.Fl=true->(G i c b↔c<e.cs.length/\nf (T7 ms es i+c) b):=by intro i c b md e B q J;simp only[G,B,q];cases md<;>simp[Md.Fl]at J<;>simp
 have hGb:∀{i c b id},ms[i]?=some Md.b->es[i]?=some ⟨.one,[.bp id 0]⟩->(G i c b↔c=0/\b=g.β id):=by intro i c b id B q;simp only[G,B,q];constructor;rintro⟨h1,id',Y,h3⟩;cases Y;exact⟨h1,h3⟩;rintro⟨h1,Y⟩;exact⟨h1,id,rfl,Y⟩
 have hGn:∀{i c b},G i c b->∃md e,ms[i]?=some md/\es[i]?=some e/\md.writes=true:=by intro i c b hG;simp only[G]at hG;split at hG;rename_i e h1 Y;exact⟨_,e,h1,Y,rfl⟩;rename_i e h1 Y;exact⟨_,e,h1,Y,rfl⟩;rename_i e h1 Y;exact⟨_,e,h1,Y,rfl⟩;exact hG.elim
 have hUi:∀{i md e},ms[i]?=some md->es[i]?=some e->md≠.b->∃xs,Us[i]?=some xs/\U i=xs:=by intro i md e B q hne;have ⟨u,xs,_,X,_⟩:=hU i e q;refine⟨xs,X,?_⟩;simp only[U,B,q];split;rename_i h1 _;cases h1;exact absurd rfl hne;simp[List.getD,X]
 have hRi:∀{i md e},ms[i]?=some md->es[i]?=some e->R i=ue F S g md e:=by intro i md e B q;simp only[R,B,q]
 have hRm:∀{i b},R i b->∃md e,ms[i]?=some md/\es[i]?=some e/\ue F S g md e b:=by
  intro i b hR;simp only[R]at hR;cases B:ms[i]? with
  |none=>simp[B]at hR|some md=>
   cases q:es[i]? with
   |none=>simp[B,q]at hR|some e=>simp only[B,q]at hR;exact⟨md,e,rfl,rfl,hR⟩
 have hcsl:cs.length=(IQ ms es).length:=by rw[<-t1,hlv]
 have hidx:∀{i md e c},ms[i]?=some md->es[i]?=some e->md.Fl=true->c<e.cs.length->T7 ms es i+c<cs.length:=by intro i md e c B q J hc;have:=WK B q J hc;rw[AU hc]at this;rw[hcsl];exact(AO.1 this).1
 have hGw:∀{i c b e},G i c b->es[i]?=some e->(∃id,e=⟨.one,[.bp id 0]⟩/\(get S.bx id).isSome/\b=g.β id)\/∃l r,l∈e.cs/\l.CA=some r/\CP S r/\g.fp r b:=by
  intro i c b e hG q;have ⟨md,e',B,he',hw⟩:=hGn hG;rw[q]at he';cases he';by_cases hmb:md=.b;subst hmb;obtain⟨id,rfl⟩:=hbox i e B q;have ⟨ls,H,_⟩:=hbare i id B q;exact .inl ⟨id,rfl,by simp[H],((hGb B q).1 hG).2⟩;have J:md.Fl=true:=by cases md<;>simp_all[Md.Fl,Md.writes]
  have ⟨hc,hn⟩:=(hGt B q J).1 hG;have ⟨l,r,h1,Y,h3,h4⟩:=hnf _ b (hidx B q J hc) hn;rw[WK B q J hc]at h1;exact .inr ⟨l,r,A4 h1,Y,h3,h4⟩
 have hKb:∀{j c b e},G j c b->es[j]?=some e->¬F.K b:=by intro j c b e hG q hk;rcases hGw hG q with ⟨id,_,hs,rfl⟩|⟨l,r,_,_,Z,hf⟩;exact h.bxR id hs hk;exact h.Hw r Z b hf hk
 have hbpon:∀id,Gb id (.bp id 0)=true:=λid=>by simp[Gb,AS.Nn]
 have rg:∀i j c b,R i b->¬G j c b:=by
  intro i j c b hR hG;have ⟨mdj,ej,hmj,hej,hwj⟩:=hGn hG;have hRc:F.K b\/∃mdi ei,ms[i]?=some mdi/\es[i]?=some ei/\mdi.writes=false/\∃l∈ei.cs,rdL F S g l b:=by have ⟨mdi,ei,h1,Y,hR⟩:=hRm hR;rcases iD hR with ⟨hw,hR⟩|hk;exact .inr ⟨_,ei,h1,Y,hw,hR⟩;exact .inl hk
  rcases hRc with hk|⟨mdi,ei,O,L,hwi,l,hl,hrl⟩;exact hKb hG hej hk;have hne:j≠i:=by rintro rfl;rw[hmj]at O;cases O;rw[hwj]at hwi;cases hwi
  have hsh:=(hclash j mdj ej hmj hej hwj).2 i ei L hne;rcases tf hrl with hk|⟨r1,hr1,hal1,hf1⟩|⟨id1,hid1,hs1,hb1⟩;exact hKb hG hej hk;rcases hGw hG hej with ⟨id,rfl,hs,rfl⟩|⟨l',r,hl',hr,Z,hf⟩;exact h.F3 r1 id hal1 hs hf1;by_cases hrr:r=r1;subst hrr;exact(IK hsh hl' hl).1 r hr hr1;exact h.dis r r1 Z hal1 hrr b hf hf1;rcases hGw hG hej with ⟨id,rfl,hs,hbe⟩|⟨l',r,hl',hr,Z,hf⟩;have hoff:=(IK hsh (l:=.bp id 0) (by simp) hl).2.2 id1 hid1;rcases hb1 with hb1|⟨c1,hal1,hf1⟩;have:id1=id:=h.G1 id1 id hs1 hs (hb1.symm.trans hbe);subst this;rw[hbpon]at hoff;cases hoff;subst hbe;exact h.F3 _ id hal1 hs hf1;have hoff:=(IK hsh hl' hl).2.2 id1 hid1;rcases hb1 with rfl|⟨c1,hal1,hf1⟩;exact h.F3 r id1 Z hs1 hf;by_cases hrr:r=.cell id1 c1;subst hrr;exact QG hoff hr;exact h.dis r _ Z hal1 hrr b hf hf1
 have gg:∀i c j d b,G i c b->(i≠j\/c≠d)->¬G j d b:=by
  intro i c j d b hGi hne hGj;have ⟨mdi,ei,O,L,hwi⟩:=hGn hGi;have ⟨mdj,ej,hmj,hej,hwj⟩:=hGn hGj;by_cases hij:i=j;subst hij;rw[O]at hmj;cases hmj;rw[L]at hej;cases hej;have hcd:c≠d:=by rcases hne with h|h;exact absurd rfl h;exact h
  by_cases hmb:mdi=.b;subst hmb;obtain⟨id,rfl⟩:=hbox i ei O L;exact hcd (((hGb O L).1 hGi).1.trans ((hGb O L).1 hGj).1.symm);have J:mdi.Fl=true:=by cases mdi<;>simp_all[Md.Fl,Md.writes]
  have ⟨h1,Y⟩:=(hGt O L J).1 hGi;have ⟨h3,h4⟩:=(hGt O L J).1 hGj;exact t6 _ _ b (hidx O L J h1) (hidx O L J h3) (by omega) Y h4;have hsh:=(hclash i mdi ei O L hwi).2 j ej hej hij;rcases hGw hGi L with ⟨id,rfl,hs,rfl⟩|⟨l,r,hl,hr,Z,hf⟩;rcases hGw hGj hej with ⟨id',rfl,hs',hbe⟩|⟨l',r',hl',hr',hal',hf'⟩;have:id=id':=h.G1 id id' hs hs' hbe;subst this;have:=(IK hsh (l:=.bp id 0) (l':=.bp id 0) (by simp) (by simp)).2.1 id (by simp[names]);rw[hbpon]at this;cases this;exact h.F3 r' id hal' hs hf';rcases hGw hGj hej with ⟨id',rfl,hs',rfl⟩|⟨l',r',hl',hr',hal',hf'⟩;exact h.F3 r id' Z hs' hf;by_cases hrr:r=r';subst hrr;exact(IK hsh hl hl').1 r hr hr';exact h.dis r r' Z hal' hrr b hf hf'
 have hes:∀{i:Nat} {md:Md},ms[i]?=some md->∃e,es[i]?=some e:=by intro i md B;have:i<ms.length:=(AO.1 B).1;exact⟨es[i]'(by omega),by simp[hel,this]⟩
 have hOwn:∀{i md e},ms[i]?=some md->es[i]?=some e->md.Fl=true->pb w (G i) ((cs.drop (T7 ms es i)).take e.cs.length) (U i)/\((cs.drop (T7 ms es i)).take e.cs.length).length=e.cs.length:=by
  intro i md e B q J;have ⟨xs,X,hUx⟩:=hUi B q (by rintro rfl;simp[Md.Fl]at J);have ⟨u,xs',_,E,_,hxl,_⟩:=hU i e q;rw[X]at E;cases E;have hl:((cs.drop (T7 ms es i)).take e.cs.length).length=e.cs.length:=by rw[Ag,List.length_drop];by_cases h0:e.cs.length=0;omega;have:=hidx B q J (c:=e.cs.length-1) (by omega);omega
  refine⟨⟨by rw[hUx,hxl,hl],?_⟩,hl⟩;intro c x hx;rw[List.getElem?_take]at hx;split at hx;rename_i hc;rw[Bw]at hx;have ⟨z,hz,ho⟩:=t2 _ x hx;rw[hlvg i md e xs c B q X J hc]at hz;exact⟨z,by rw[hUx];exact hz,ho.congr λb=>(hGt B q J).trans ⟨λh=>h.2,λh=>⟨hc,h⟩⟩⟩;cases hx
 refine⟨R,G,U,g1,⟨hB,?_,?_,hBl.pin.trans hT.pin,hT.tv,hT.bv,hT.β,hT.fp⟩,⟨hvl,by rw[hlen,hel],?_,?_,rg,gg,?_⟩,?_,?_,?_,hel⟩;intro r x' hx';exact hT.ADV r x' ((hBl.ow r x').1 hx');intro id hid;have ⟨ls,H⟩:=Bq.1 hid;have ⟨ls0,h0,_⟩:=hBl.bx id ls H;exact hT.bx id (by simp[h0]);intro i md V u B hV hu;have ⟨e,q⟩:=hes B;have ⟨V',hV',I⟩:=hget i md e B q;rw[hV]at hV';cases hV';have ⟨u',xs,hu',X,hue,hxl,hno,hok⟩:=hU i e q;rw[hu]at hu';cases hu';have taken:md.Fl=true->∀{sh cs'},(V=.o sh cs'\/V=.m sh cs')->sh=e.sh->cs'=(cs.drop (T7 ms es i)).take e.cs.length->u=mkV sh (U i)/\pb w (G i) cs' (U i)/\∀c b,G i c b->c<cs'.length:=by rintro J sh cs' _ rfl rfl;have ⟨o1,o2⟩:=hOwn B q J;have ⟨xs',E,hUx⟩:=hUi B q (by rintro rfl;simp[Md.Fl]at J);rw[X]at E;cases E;exact⟨by rw[hUx];exact hue,o1,λc b hG=>by rw[o2];exact((hGt B q J).1 hG).1⟩
 have other:md.Fl=false->UB S md e=some V->dZ F.A F.P w (R i) (G i) (U i) md V u:=by intro J hv;rw[hRi B q];refine AWA h hv (by have ⟨u',hu',hr⟩:=hrd i e q;rw[hu]at hu';cases hu';exact hr) ?_ ?_ ?_ ?_;intro hne;have ⟨xs',E,hUx⟩:=hUi B q hne;rw[X]at E;cases E;rw[hUx];exact⟨hue,hxl,hno,hok⟩;rintro id rfl rfl;simp only[U,B,q];intro hne c b hG;have ⟨md',e',hm',_,hw⟩:=hGn hG;rw[B]at hm';cases hm';cases md<;>simp[Md.Fl,Md.writes]at J hw hne;rintro id rfl rfl c b;exact hGb B q
 cases md with
 |o=>have hmk1':V=_:=I;subst hmk1';exact taken rfl (.inl rfl) rfl rfl|m=>have ⟨hmk1',_⟩:=I;subst hmk1';exact taken rfl (.inr rfl) rfl rfl|v=>exact other rfl I|p=>exact other rfl I|b=>exact other rfl I
 intro i b hR;have ⟨mdi,ei,h1,Y,hR⟩:=hRm hR;rcases iD hR with ⟨hw,l,_,hl⟩|hk;exact AZj h hl;exact BZ (h.rlt b hk) h.size;intro i c b hG;have ⟨md,e,B,_⟩:=hGn hG;exact(AO.1 B).1;intro i c b md B J hG;have ⟨e,q⟩:=hes B;have ⟨hc,hn⟩:=(hGt B q J).1 hG;have hk:=hidx B q J hc;refine⟨t3 _ b hk hn,λr hr=>t4 _ r b hk ?_ hn,λid hid hbe=>t5 _ id hk ?_ (hbe▸hn)⟩;have ⟨x,hx⟩:=hr;exact⟨x,(hBl.ow r x).1 hx⟩;have ⟨ls,H⟩:=Bq.1 hid;have ⟨ls0,h0,_⟩:=hBl.bx id ls H;simp[h0];intro i md e B q;have ⟨V',hV',I⟩:=hget i md e B q;have ⟨u,xs,hu,X,hue,hxl,hno,hok⟩:=hU i e q;constructor;cases md with
 |v=>trivial|p=>trivial|o=>trivial|b=>obtain⟨id,rfl⟩:=hbox i e B q;have ⟨ls,H,_⟩:=hbare i id B q;refine⟨id,ls,rfl,H,?_,?_,λc b=>hGb B q,?_,λls' hl'=>hBl.all i id B q ls' hl'⟩;rw[hRi B q];funext b;simp[ue,H];simp only[U,B,q];have ⟨u',hu',hr⟩:=hrd i _ q;have:u'=_:=Zw hr rfl;rw[hu',this]
 |m=>
  have ⟨xs',E,hUx⟩:=hUi B q (by simp);rw[X]at E;cases E;have ⟨_,hpl,_⟩:=I;refine⟨by rw[hUx];exact hxl,(SQ hown).sublist (uH B q rfl),?_⟩;intro c l hl;have ⟨z,hz,hlz⟩:=hok c l hl;have hmem:l∈IQ ms es:=by have hc:c<e.cs.length:=(AO.1 hl).1;have:=WK B q (by rfl) hc;rw[hl]at this;exact A4 this
  refine⟨(B2.1 hpl) l (A4 hl),z,by rw[hUx];exact hz,hlz,?_,?_⟩;rintro r sub rfl;exact hBl.top r (htop r sub hmem);rintro r ⟨i',j'⟩ e' xs' rfl;have ⟨e0,rows,hx⟩:=SR hown hmem;exact⟨_,(hBl.ow r _).2 hx⟩
 intro hmd lab hlab b hR;rw[hRi B q]at hR;cases md with
 |v=>have ⟨l,hl,hrl⟩:=hR;refine AS5 hlab ?_ hl hrl;rintro id off rfl;simp[qI,UB,St.IL,St.IT]at I
 |p=>exact absurd rfl hmd|o=>exact hR.elim|m=>exact hR.elim|b=>obtain⟨id,rfl⟩:=hbox i e B q;have ⟨ls,H,_⟩:=hbare i id B q;simp only[ue,H]at hR;simp only[nG,H]at hlab;split at hlab;cases hlab;exact hR;cases hlab
 intro i c b hG;have ⟨md,e,B,q,hw⟩:=hGn hG;exact⟨i,md,e,B,q,hw,hGw hG q⟩;cases ha;cases ha
end
section
variable{F:Fix}{S S' S1 S2:St}{g g' g1:Gh}{a a':Act}{w w':World}
variable{N:Blk}{ok:CN->Prop}
def Fix.ext(F:Fix)(Z:Blk)(w:World):Fix:=
 { F with R:=λk b=>F.R k b\/Z b,K:=λb=>F.K b\/Z b,RK:=λk b h=>h.elim (λh=>.inl (F.RK k b h)) .inr,w0:=w}
theorem GA.ext{l}{v}{Z}{w1}(h:GA F g w l v):GA (F.ext Z w1) g w l v:=by
 match l,h with
 |.t _,h=>exact h|.und,h=>exact h|.vw (.old k) e xs,h=>have hV:View w (F.R k) (.sl e xs) v:=h;exact hV.up λb c=>.inl c
 |.vp (.old k) cs,h=>have hV:W0 w (F.R k) cs v:=h;exact hV.up λb c=>.inl c
 |.bp _ _,h=>exact h
theorem Bz.ext{fp}{l}{v}{Z}{w1}(h:Bz F S g w fp l v):Bz (F.ext Z w1) S g w fp l v:=by
 match l,h with
 |.ow _,h=>exact h|.al _ _,h=>exact h|.ep _ _ _,h=>exact h|.vw (.own _ _) _ _,h=>exact h|.vp (.own _ _) _,h=>exact h|.fn f caps,⟨n,cv,j,q,y,B⟩=>exact⟨n,cv,j,q,y,λi l c G E=>(B i l c G E).ext⟩|.t x,h=>exact GA.ext (F:=F) (g:=g) (w:=w) (Z:=Z) (w1:=w1) (l:=.t x) h|.und,h=>exact GA.ext (F:=F) (g:=g) (w:=w) (Z:=Z) (w1:=w1) (l:=.und) h|.vw (.old k) e xs,h=>exact GA.ext (F:=F) (g:=g) (w:=w) (Z:=Z) (w1:=w1) (l:=.vw (.old k) e xs) h|.vp (.old k) cs,h=>exact GA.ext (F:=F) (g:=g) (w:=w) (Z:=Z) (w1:=w1) (l:=.vp (.old k) cs) h|.bp i o,h=>exact GA.ext (F:=F) (g:=g) (w:=w) (Z:=Z) (w1:=w1) (l:=.bp i o) h
theorem Inv.ext(h:Inv F S g a w){Z}(hZ:∀b,Z b->b<w.heap.size/\(∀r,CP S r->¬g.fp r b)/\∀id,(get S.bx id).isSome->b≠g.β id):Inv (F.ext Z w) S g a w where
 C6 r l E:=let ⟨v,G,q⟩:=h.C6 r l E;⟨v,G,q.ext⟩
 tms:=h.tms
 bxs:=h.bxs
 dis:=h.dis
 F3:=h.F3
 Hw r B b y c:=by rcases c with c|j;exact h.Hw r B b y c;exact(hZ b j).2.1 r B y
 G1:=h.G1
 bxR id e c:=by rcases c with c|j;exact h.bxR id e c;exact(hZ _ j).2.2 id e rfl
 FZ _ _:=rfl
 rlt b c:=by rcases c with c|j;exact BZ (h.rlt b c) h.size;exact(hZ b j).1
 still:=.refl
 defs:=h.defs
 tsz:=h.tsz
 pin:=h.pin
theorem Inv.called(h:Inv F S g a w){B:Nat->Prop}{nb:Nat->List Value}(hs:Still w w')
 (hw:∀b,b<w.heap.size->(F.K b\/(∃r,CP S r/\g.fp r b)\/∃id,(get S.bx id).isSome/\¬B id/\b=g.β id)->w'.heap[b]?=w.heap[b]?)
 (hB:∀id ls,B id->get S.bx id=some ls->(∀l∈ls,l=.t .top)/\∃E,w'.heap[g.β id]?=some (.cells (nb id).toArray E (0,0))/\(nb id).length=(g.bv id).length)
 (X:∀id,¬B id->nb id=g.bv id):Inv F S { g with bv:=nb} a w':=by
 have hR:∀b,F.K b->w'.heap[b]?=w.heap[b]?:=λb e=>hw b (BZ (h.rlt b e) h.size) (.inl e);have H:∀r,CP S r->∀b,g.fp r b->w'.heap[b]?=w.heap[b]?:=by intro r hr b e;have ⟨x,G⟩:=hr;have ⟨v,_,q⟩:=h.C6 r _ G;exact hw b (Own.lt q b e) (.inr (.inl ⟨r,⟨x,G⟩,e⟩))
 have hdead:∀id c x,B id->S.at (.cell id c)≠some (.ow x):=by
  intro id c x e G;cases j:get S.bx id with
  |none=>simp[St.at,j]at G|some ls=>simp[St.at,j]at G;have:=(hB id ls e j).1 _ (A4 G);cases this
 have O:∀r,CP S r->({ g with bv:=nb}:Gh).rv r=g.rv r:=by
  rintro r ⟨x,G⟩;cases r with
  |tmp s c=>rfl|cell id c=>have:¬B id:=λe=>hdead id c x e G;simp[Gh.rv,X id this]
 refine { C6:=?_,tms:=h.tms,bxs:=?_,dis:=h.dis,F3:=h.F3,Hw:=h.Hw,G1:=h.G1,bxR:=h.bxR,FZ:=?_,rlt:=h.rlt,still:=h.still.trans hs,defs:=h.defs,tsz:=h.tsz,pin:=h.pin};intro r l y;have ⟨v,Z,q⟩:=h.C6 r l y;by_cases J:∃x,l=.ow x;obtain⟨x,rfl⟩:=J;exact⟨v,by rw[O r ⟨x,y⟩];exact Z,Own.frame q (H r ⟨x,y⟩)⟩;have I:∀x,l≠.ow x:=λx G=>J ⟨x,G⟩;have tr:Bz F S { g with bv:=nb} w' (g.fp r) l v:=
  Bz.any I ((Bz.any (fp':=λ_=>False) I q).tr (S':=S) (g':={ g with bv:=nb}) (w':=w') (λr1 L=>⟨rfl,O r1 (q.alive L),λ_ h=>h,H r1 (q.alive L)⟩) (λ_ _=>rfl) (λ_ h=>h.elim) hR)
 cases r with
 |tmp s c=>exact⟨v,Z,tr⟩|cell id c=>
  by_cases e:B id;cases j:get S.bx id with
  |none=>simp[St.at,j]at y|some ls=>
   simp[St.at,j]at y;have ⟨k1,E,k2,k3⟩:=hB id ls e j;have:=k1 _ (A4 y);subst this;have Y:c<(nb id).length:=by rw[k3,(h.bxs id ls j).2];exact(AO.1 y).1
   exact⟨(nb id)[c],by simp[Gh.rv,Y],Bz.top⟩
  exact⟨v,by simpa[Gh.rv,X id e] using Z,tr⟩
 intro id ls y;have ⟨⟨E,hE⟩,h2⟩:=h.bxs id ls y;by_cases e:B id;have ⟨k1,E',k2,k3⟩:=hB id ls e y;exact⟨⟨E',k2⟩,k3.trans h2⟩;refine⟨⟨E,?_⟩,by rw[show ({ g with bv:=nb}:Gh).bv id=g.bv id from X id e];exact h2⟩;rw[show ({ g with bv:=nb}:Gh).bv id=g.bv id from X id e];exact(hw _ (BJ.1 hE).1 (.inr (.inr ⟨id,by simp[y],e,rfl⟩))).trans hE;intro b e;exact(hR b e).trans (h.FZ b e)
theorem Own.fill{e:Nat}{rows:List (List T)}{blk off len cap:Nat}{fp D:Blk}{i j:Nat}{x y:T}{z:Value}(h:Own w (.sl e rows) (.slice (some ⟨blk,off,none⟩) len cap) fp)(O:at2 rows i j=some y)
 (hz:w.cell? ⟨blk,off+i*e+j,none⟩=some z) (ho:Own w x z D) (hD:∀b,D b->¬fp b) :
 ∃fp':Blk,Own w (.sl e (KN rows i j x)) (.slice (some ⟨blk,off,none⟩) len cap) fp'/\∀b,fp' b->fp b\/D b:=by
 cases h with
 |sc h _ _=>exact h.elim|sl c f h1 h2 h3 Z h5 Y h7 h8 h9 X=>
  have hc:c i j=z:=by rw[Z.cell,Y i j y O]at hz;exact Option.some.inj hz
  subst hc;have hi:=ug O;have L:fp _:=(X _).2 (.inl rfl);have J:∀q B E,at2 (KN rows i j x) q B=some E->(q=i/\B=j/\E=x)\/(¬(q=i/\B=j)/\at2 rows q B=some E):=by intro q B E H;rw[AAc O]at H;split at H;rename_i I;exact .inl ⟨I.1,I.2,(Option.some.inj H).symm⟩;next I=>exact .inr ⟨I,H⟩
  refine⟨λb=>b=_\/∃q B E,at2 (KN rows i j x) q B=some E/\(if q=i/\B=j then D else f q B) b,
   .sl c (λq B=>if q=i/\B=j then D else f q B) (by rw[Se];exact h1) h2 (tu h3 hi) Z h5 ?_ ?_ ?_ ?_ (λb=>Iff.rfl),?_⟩
  intro q B E H;rcases J q B E H with ⟨rfl,rfl,rfl⟩|⟨I,G⟩;exact Y _ _ _ O;exact Y _ _ _ G;intro q B E H;rcases J q B E H with ⟨rfl,rfl,rfl⟩|⟨I,G⟩;simpa using ho;rw[Aa I];exact h7 _ _ _ G;intro q B E H;rcases J q B E H with ⟨rfl,rfl,rfl⟩|⟨I,G⟩;simp[and_self,if_true];exact λhb=>hD _ hb L;rw[Aa I];exact h8 _ _ _ G;grind;grind
structure Ml(S S':St)(g g':Gh)(N:Blk)(ok:CN->Prop):Prop where
 tv:g'.tv=g.tv
 bv:g'.bv=g.bv
 β:g'.β=g.β
 fp:∀r,CP S' r->∀b,g'.fp r b->(CP S r/\g.fp r b)\/N b
 pin:S'.pin=S.pin
 bx:∀id ls',get S'.bx id=some ls'->∃ls,get S.bx id=some ls/\ls'.length=ls.length
 bx2:∀id ls,get S.bx id=some ls->∃ls',get S'.bx id=some ls'
 top:∀r,¬ok r->S.at r=some (.t .top)->S'.at r=some (.t .top)
 ow:∀r x,¬ok r->S'.at r=some (.ow x)->S.at r=some (.ow x)
 al:∀r,CP S' r->CP S r\/ok r
theorem Ml.rv(h:Ml S S' g g' N ok) r :g'.rv r=g.rv r:=by cases r<;>simp[Gh.rv,h.tv,h.bv]
theorem Ml.refl:Ml S S g g (λ_=>False) (λ_=>False):=⟨rfl,rfl,rfl,λ_ c _ h=>.inl ⟨c,h⟩,rfl,λ_ ls h=>⟨ls,h,rfl⟩,λ_ ls h=>⟨ls,h⟩,λ_ _ h=>h,λ_ _ _ h=>h,λ_ h=>.inl h⟩
theorem Ml.trans{G}{N'}{q}(h:Ml S S' g g' N ok)(e:Ml S' S2 g' G N' q):Ml S S2 g G (λb=>N b\/N' b) (λr=>ok r\/q r) where
 tv:=e.tv.trans h.tv
 bv:=e.bv.trans h.bv
 β:=e.β.trans h.β
 fp r c b j:=by rcases e.fp r c b j with ⟨c,j⟩|j;rcases h.fp r c b j with j|j;exact .inl j;exact .inr (.inl j);exact .inr (.inr j)
 pin:=e.pin.trans h.pin
 bx id ls' y:=let ⟨E,B,J⟩:=e.bx id ls' y;let ⟨X,L,O⟩:=h.bx id E B;⟨X,L,J.trans O⟩
 bx2 id ls y:=let ⟨E,B⟩:=h.bx2 id ls y;e.bx2 id E B
 top r c H:=e.top r (λh=>c (.inr h)) (h.top r (λh=>c (.inl h)) H)
 ow r x c I:=h.ow r x (λh=>c (.inl h)) (e.ow r x (λh=>c (.inr h)) I)
 al r c:=by rcases e.al r c with c|c;rcases h.al r c with c|c;exact .inl c;exact .inr (.inl c);exact .inr (.inr c)
theorem Ml.mono{N'}{j}(h:Ml S S' g g' N ok)(hN:∀b,N b->N' b)(c:∀r,ok r->j r):Ml S S' g g' N' j:=
 { h with fp:=λr e b q=>(h.fp r e b q).imp id (hN b),top:=λr e=>h.top r λh=>e (c r h),ow:=λr x e=>h.ow r x λh=>e (c r h),al:=λr e=>(h.al r e).imp id (c r)}
theorem EV.iK{b}(h:EV F S g b)(hC:Ml S S' g g' N ok)(hN:¬N b):EV F S' g' b:=by refine⟨h.1,λr B c=>?_,λid j=>?_⟩;rcases hC.fp r B b c with ⟨e,c⟩|c;exact h.2.1 r e c;exact hN c;rw[hC.β];have ⟨ls,q⟩:=Bq.1 j;have ⟨E,y,_⟩:=hC.bx id ls q;exact h.2.2 id (by simp[y])
theorem Inv.ACy(h:Inv F S g a w){r:CN}{x:T}{z:Value}{D:Blk}(hr:S.at r=some (.t .top))(hz:g.rv r=some z)(ho:Own w x z D)(hD:∀b,D b->EV F S g b) :
 Inv F (S.Bk r (.ow x)) { g with fp:=λr'=>if r'=r then D else g.fp r'} a w/\Ml S (S.Bk r (.ow x)) g { g with fp:=λr'=>if r'=r then D else g.fp r'} D (λr'=>r'=r):=by
 have I:∀r',(S.Bk r (.ow x)).at r'=if r'=r then some (.ow x) else S.at r':=λr'=>FR hr _ r'
 have hdead:¬CP S r:=by rintro⟨y,O⟩;rw[hr]at O;cases O
 have B:∀r',CP (S.Bk r (.ow x)) r'->r'=r\/(r'≠r/\CP S r'):=by rintro r' ⟨y,O⟩;rw[I]at O;split at O;exact .inl (by assumption);exact .inr ⟨by assumption,y,O⟩
 have hsome:∀id,(get (S.Bk r (.ow x)).bx id).isSome=(get S.bx id).isSome:=λid=>D8;constructor;refine { C6:=?_,tms:=?_,bxs:=?_,dis:=?_,F3:=?_,Hw:=?_,G1:=λid id' q H=>h.G1 id id' (by rwa[<-hsome]) (by rwa[<-hsome]),bxR:=λid q=>h.bxR id (by rwa[<-hsome]),FZ:=h.FZ,rlt:=h.rlt,still:=h.still,defs:=h.defs,tsz:=h.tsz,pin:=?_};intro r' l L;rw[I]at L;split at L;rename_i heq;subst heq;cases L;refine⟨z,hz,?_⟩;simp[if_true];exact ho;rename_i j;have ⟨v,hv,hok⟩:=h.C6 r' l L;refine⟨v,hv,?_⟩;simp[Aa j];refine hok.off (r:=r) ?_ ?_ ?_ (λZ=>by cases Z<;>rfl) rfl;intro hroot;exact hdead (hok.alive hroot);intro Z J _;rw[I,Aa J];intro Z J;simp[J];intro s e he;have ⟨e0,q,H,h3⟩:=NZ he;have ⟨p1,p2,p3⟩:=h.tms s e0 q;exact⟨p1,by rw[p2,H],by rw[p3,h3]⟩;intro id ls L;have ⟨l0,q,H⟩:=J9 L;have ⟨p1,p2⟩:=h.bxs id l0 q;exact⟨p1,by rw[p2,H]⟩;intro X r2 q H j b c E;dsimp at c E;rcases B X q with rfl|⟨n1,a1⟩;rw[AY rfl]at c;rcases B r2 H with rfl|⟨n2,a2⟩;exact j rfl;rw[Aa n2]at E;exact(hD b c).2.1 r2 a2 E;rw[Aa n1]at c;rcases B r2 H with rfl|⟨n2,a2⟩;rw[AY rfl]at E;exact(hD b E).2.1 X a1 c;rw[Aa n2]at E;exact h.dis X r2 a1 a2 j b c E;intro X id q Y c;rw[hsome]at Y;dsimp at c;rcases B X q with rfl|⟨n1,a1⟩;rw[AY rfl]at c;exact(hD _ c).2.2 id Y rfl;rw[Aa n1]at c;exact h.F3 X id a1 Y c;intro X q b c;dsimp at c;rcases B X q with rfl|⟨n1,a1⟩;rw[AY rfl]at c;exact(hD _ c).1;rw[Aa n1]at c;exact h.Hw X a1 b c;intro p hp;rw[H9]at hp;have ⟨q,H⟩:=h.pin p hp;exact⟨q,λhs=>H (by rwa[<-hsome])⟩;refine⟨rfl,rfl,rfl,?_,H9,?_,?_,?_,?_,?_⟩;intro r' G b c;dsimp at c;rcases B r' G with rfl|⟨j,G⟩;rw[AY rfl]at c;exact .inr c;rw[Aa j]at c;exact .inl ⟨G,c⟩;intro id ls' L;have ⟨l0,q,H⟩:=J9 L;exact⟨l0,q,H⟩;intro id ls L;have:(get (S.Bk r (.ow x)).bx id).isSome:=by rw[hsome];simp[L]
 exact Bq.1 this;intro r' j ht;rw[I,Aa j];exact ht;intro r' y j O;rw[I,Aa j]at O;exact O;intro r' G;rcases B r' G with rfl|⟨_,G⟩;exact .inr rfl;exact .inl G
theorem Inv.APX(h:Inv F S g a w){r:CN}{e:Nat}{rows:List (List T)}{blk off len cap i j:Nat}{x y:T}{z:Value}{D:Blk}(B:S.at r=some (.ow (.sl e rows)))(Z:g.rv r=some (.slice (some ⟨blk,off,none⟩) len cap))(hy:at2 rows i j=some y)
 (hz:w.cell? ⟨blk,off+i*e+j,none⟩=some z) (ho:Own w x z D) (hD:∀b,D b->EV F S g b) :
 ∃g',Inv F ((S.Bk r (.ow (.sl e (KN rows i j x)))).kill (GS r)) g' a w/\Ml S ((S.Bk r (.ow (.sl e (KN rows i j x)))).kill (GS r)) g g' D (λr'=>r'=r):=by
 have ⟨u',J,I⟩:=h.C6 r _ B;rw[Z]at J;cases J;have ⟨fp',o1,Y⟩:=Own.fill I hy hz ho (λb c=>(hD b c).2.1 r ⟨_,B⟩);have H:=h.zV (w':=w) (ys:=KN rows i j x) (fp':=fp') B Z Se Still.refl (λ_ _ _=>rfl) o1 (λb c=>by
  rcases Y b c with c|c;exact h.Hw r ⟨_,B⟩ b c;exact(hD b c).1) (λr' q E b c=>by
  rcases Y b c with c|c;exact h.dis r r' ⟨_,B⟩ q (Ne.symm E) b c;exact(hD b c).2.1 r' q)
  (λid G c=>by rcases Y _ c with c|c;exact h.F3 r id ⟨_,B⟩ G c;exact(hD _ c).2.2 id G rfl)
 have L:∀r',CP ((S.Bk r (.ow (.sl e (KN rows i j x)))).kill (GS r)) r'->CP S r':=by rintro r' ⟨y',O⟩;have ⟨y0,X,_⟩:=tP B Se r' y' O;exact⟨y0,X⟩
 refine⟨_,H,rfl,rfl,rfl,?_,ADr,?_,?_,?_,?_,λr' q=>.inl (L r' q)⟩;grind;grind[St.kill,Dp,Option.map_eq_some_iff,J9,Fy];grind[get,KN,D8,Option.isSome_iff_exists,FD,GS,St.kill,Dp];intro r' E ht;rw[Qw B,Aa E,ht];rfl;grind[Qw,Option.map_eq_some_iff]
def Place(S:St)(g:Gh)(w:World)(l:AS)(z:Value):Prop:=
 match l with
 |.al r none=>S.at r=some (.t .top)/\g.rv r=some z|.vw (.own r (some (i,j))) _ _=>∃e0 n blk off len cap,g.rv r=some (.slice (some ⟨blk,off,none⟩) len cap)/\w.cell? ⟨blk,off+i*e0+j,none⟩=some z/\i<n/\j<e0/\∀e1 rows,S.at r=some (.ow (.sl e1 rows))->e1=e0/\rows.length=n|_=>True
theorem Place.iK{l}{z}(h:Place S g w l z)(hC:Ml S S' g g' N ok)(c:∀r,l.CA=some r->¬ok r):Place S' g' w l z:=by unfold Place at h ⊢;split at h;rename_i r;exact⟨hC.top r (c r rfl) h.1,(hC.rv r).trans h.2⟩;rename_i r i j _ _;have ⟨e,n,blk,off,len,cap,y,B,E,G,H⟩:=h;exact⟨e,n,blk,off,len,cap,(hC.rv r).trans y,B,E,G,λq rows I=>H q rows (hC.ow r _ (c r rfl) I)⟩;trivial
theorem Px:∀(ls:List AS) (os:List T) (us:List Value) (D:Nat->Blk) (S S':St) (g:Gh),Inv F S g a w->IN S ls os=some S'->(∀(c:Nat) l,ls[c]?=some l->∃z,us[c]?=some z/\Place S g w l z) ->
 (∀(c:Nat) x,os[c]?=some x->∃z,us[c]?=some z/\Own w x z (D c))->(∀c b,D c b->EV F S g b)->(∀c d b,c≠d->D c b->¬D d b)->ls.Pairwise AVx ->
 ∃g',Inv F S' g' a w/\Ml S S' g g' (λb=>∃c,D c b) (λr=>∃l∈ls,l.CA=some r)
 | [],os,us,D,S,S',g,h,q,_,_,_,_,_=>by
  cases os with
  |nil=>simp[IN,AE]at q;subst q;exact⟨g,h,Ml.refl.mono (λ_ h=>h.elim) (λ_ h=>h.elim)⟩|cons=>simp[IN]at q
 |l::ls,[],us,D,S,S',g,h,q,_,_,_,_,_=>by simp[IN]at q|l::ls,o::os,us,D,S,S',g,h,q,hp,ho,hl,hd,hdist=>by
  have ⟨hd1,hd2⟩:=List.pairwise_cons.1 hdist;have ⟨z,hz,J⟩:=hp 0 l rfl;have ⟨Z,B,I⟩:=ho 0 o rfl;rw[hz]at B;cases B;have next:∀(S1:St) (g1:Gh),Inv F S1 g1 a w->Ml S S1 g g1 (D 0) (λr=>l.CA=some r)->IN S1 ls os=some S' ->
   ∃g',Inv F S' g' a w/\Ml S S' g g' (λb=>∃c,D c b) (λr=>∃l'∈l::ls,l'.CA=some r):=by
   intro S1 g1 h1 hC1 hf1;have ⟨g2,h2,hC2⟩:=Px ls os us.tail (λc=>D (c+1)) S1 S' g1 h1 hf1 (by
    intro c l' H;have ⟨Z,B,L⟩:=hp (c+1) l' (by simpa using H);exact⟨Z,by rw[Kg];exact B,L.iK hC1 λr O G=>hd1 l' (A4 H) r G O⟩) (by
    intro c x Y;have ⟨Z,B,ho'⟩:=ho (c+1) x (by simpa using Y);exact⟨Z,by rw[Kg];exact B,ho'⟩)
    (λc b E=>(hl (c+1) b E).iK hC1 (hd (c+1) 0 b (by omega) E)) (λc d b hne E=>hd _ _ b (by omega) E) hd2
   refine⟨g2,h2,(hC1.trans hC2).mono ?_ ?_⟩;rintro b (E|⟨c,E⟩);exact⟨0,E⟩;exact⟨c+1,E⟩;rintro r (O|⟨l',H,O⟩);exact⟨l,by simp,O⟩;exact⟨l',by simp[H],O⟩
  simp[IN]at q;split at q;next r=>have ⟨k1,k2⟩:=J;have ⟨q1,q2⟩:=h.ACy k1 k2 I (λb E=>hl 0 b E);exact next _ _ q1 (q2.mono (λ_ h=>h) (λr' G=>by subst G;rfl)) q
  rename_i r i j e' xs';split at q;rename_i e rows Y;have ⟨e0,n,blk,off,len,cap,k1,k2,k3,k4,k5⟩:=J;obtain⟨rfl,k6⟩:=k5 e rows Y;have ⟨u,hu,hO⟩:=h.C6 r _ Y;have X:∀row∈rows,row.length=e:=by
   have hO':Own w (.sl e rows) u (g.fp r):=hO;cases hO' with
   |sc hh _ _=>exact hh.elim|nl=>simp|sl c f p1 p2 p3=>exact p3
  have ⟨y,hy⟩:=Pc X (i:=i) (j:=j) (by omega) k4;have ⟨g1,q1,q2⟩:=h.APX Y k1 hy k2 I (λb E=>hl 0 b E);exact next _ _ q1 (q2.mono (λ_ h=>h) (λr' G=>by subst G;rfl)) q
  cases q;refine next S g h ?_ q;exact Ml.refl.mono (λ_ h=>h.elim) (λ_ h=>h.elim)
  cases q
end
section
variable{F:Fix}{S S' S0 S1 S2:St}{g g' g1:Gh}{a a':Act}{w w':World}
theorem P5{k}{x y}:Ew k x≠.ow y:=by cases x<;>simp[Ew]
theorem SH{k:Nat}{x:T}{v:Value}{fp:Blk}(h:View w (F.R k) x v):Bz F S g w fp (Ew k x) v:=by
 cases x with
 |sl e xs=>exact h|mp ks=>trivial|_=>cases h with|sc h=>exact h
theorem Inv.AWl(h:Inv F S g a w){id lab:Nat}{q:List AS}{o:List T}(B:get S.bx id=some q)(X:∀l∈q,l=.t .top)(L:o.length=q.length)(hv:LA w (F.R lab) o (g.bv id)) :
 ∃g',Inv F { S with bx:=Lv.put S.bx id (o.map (Ew lab))} g' a w/\Ml S { S with bx:=Lv.put S.bx id (o.map (Ew lab))} g g' (λ_=>False) (λr=>∃c,r=.cell id c):=by
 have ⟨⟨E,hE⟩,Y⟩:=h.bxs id q B;have hsome:(get S.bx id).isSome:=by simp[B]
 have hdead:∀c x,S.at (.cell id c)≠some (.ow x):=by intro c x e;simp[St.at,B]at e;cases X _ (A4 e)
 have J:=h.AKv (w':=w) (d:=id) (blk:=g.β id) (E:=E) (vs:=g.bv id) (ls:=o.map (Ew lab)) (nf:=λ_ _=>False) Still.refl (λ_ _ _=>rfl) hE (h.bxR id hsome) (λr O=>h.F3 r id O hsome)
  (λid' j hs Z=>j (h.G1 id' id hs hsome Z)) (.inl rfl) (λl _ c x _ e=>absurd e (hdead c x)) (by rw[Af,L];exact Y) (by
   intro c l hl;rw[A0,AM]at hl;obtain⟨x,e,rfl⟩:=hl;have ⟨z,hz,hV⟩:=hv.2 c x e;exact⟨z,hz,SH hV⟩) (by
   intro c x e;rw[A0,AM]at e;have ⟨y,_,hy⟩:=e;exact absurd hy P5) (λ_=>⟨hsome,rfl⟩)
 have I:∀r,(∀c,r≠.cell id c)->({ S with bx:=Lv.put S.bx id (o.map (Ew lab))}:St).at r=S.at r:=by grind[Nb]
 have H:∀c x,({ S with bx:=Lv.put S.bx id (o.map (Ew lab))}:St).at (.cell id c)≠some (.ow x):=by intro c x e;rw[Nb]at e;simp only[if_true]at e;rw[A0,AM]at e;have ⟨y,_,hy⟩:=e;exact P5 hy
 have G:∀r,CP ({ S with bx:=Lv.put S.bx id (o.map (Ew lab))}:St) r->(∀c,r≠.cell id c)/\CP S r:=by
  rintro r ⟨x,e⟩;have j:∀c,r≠.cell id c:=by rintro c rfl;exact H c x e
  exact⟨j,x,by rw[I r j]at e;exact e⟩
 refine⟨_,J,rfl,?_,?_,?_,rfl,?_,?_,?_,?_,λr O=>.inl (G r O).2⟩;funext i;by_cases hh:i=id<;>simp[Gh.F9,hh];funext i;by_cases hh:i=id<;>simp[Gh.F9,hh];intro r O b hb;have ⟨j,hr'⟩:=G r O;refine .inl ⟨hr',?_⟩;cases r with
 |tmp s c=>exact hb|cell b' c=>
  have:b'≠id:=by rintro rfl;exact j c rfl
  simpa[Gh.F9,this] using hb
 grind[get,Lv.put,Ew,GQ];grind[get,Lv.put,Ew,GQ];intro r j ht;rw[I r (λc hc=>j ⟨c,hc⟩)];exact ht;grind
def Job(F:Fix)(S0 S:St)(g:Gh)(w:World)(R:Nat->Blk)(Z:Blk)(U:Nat->List Value)(us:List Value)(i:Nat)(md:Md)(e:Ent):Prop:=
 match md with
 |.b=>∃id ls,e=⟨.one,[.bp id 0]⟩/\get S0.bx id=some ls/\(∀b,R i b\/Z b->F.R (Df ls) b)/\us[i]?=some (.pointer (some ⟨g.β id,0,none⟩))/\∀ls1,get S.bx id=some ls1->∀l∈ls1,l=.t .top|.m=>∀(c:Nat) l,e.cs[c]?=some l->∃z,(U i)[c]?=some z/\Place S g w l z|_=>True
theorem Job.iK{R:Nat->Blk}{Z:Blk}{U:Nat->List Value}{us:List Value}{i:Nat}{md:Md}{e:Ent}{N:Blk}{ok:CN->Prop}(h:Job F S0 S g w R Z U us i md e)(hC:Ml S S' g g' N ok)
 (hm:∀l∈e.cs,∀r,l.CA=some r->¬ok r) (Y:∀id c,e=⟨.one,[.bp id 0]⟩->¬ok (.cell id c)):Job F S0 S' g' w R Z U us i md e:=by
 unfold Job at h ⊢;split at h;have ⟨id,ls,G,J,L,O,X⟩:=h;refine⟨id,ls,G,J,L,by rw[hC.β];exact O,?_⟩;intro E q l B;have ⟨j,I,k2⟩:=hC.bx id E q;have ⟨c,H⟩:=B0 B;have y:c<j.length:=by rw[<-k2];exact(AO.1 H).1
 have:=hC.top (.cell id c) (Y id c G) (by simp[St.at,I,y,X j I j[c] (Aw y)]);simp[St.at,q,H,AE]at this;exact this;intro c l B;have ⟨z,hz,hp⟩:=h c l B;exact⟨z,hz,hp.iK hC (hm l (A4 B))⟩;trivial
theorem AHt{R}{Z}{D}{U}{us}(I:∀p c q d b,D p c b->(p≠q\/c≠d)->¬D q d b) :
 ∀(ms:List Md) (es:List Ent) (outs:List (List T)) (i:Nat) (S S':St) (g:Gh),Inv F S g a w->GW S0 S ms es outs=some S'->Q5 w R Z D U us i ms outs ->
 (∀(k:Nat) md e,ms[k]?=some md->es[k]?=some e->Job F S0 S g w R Z U us (i+k) md e)->(∀(k:Nat) e,ms[k]?=some Md.m->es[k]?=some e->e.cs.Pairwise AVx) ->
 (∀(k G:Nat) md e y,ms[k]?=some md->es[k]?=some e->md.writes=true->es[G]?=some y->k≠G->shares e y=false) ->
 (∀p c b,i+1<=p->D p c b->EV F S g b)->∃g',Inv F S' g' a w/\Ml S S' g g' (λb=>∃p c,i+1<=p/\D p c b) (λ_=>True)
 | [],es,outs,i,S,S',g,h,j,_,_,_,_,_=>by
  cases outs with
  |nil=>simp[GW,AE]at j;subst j;exact⟨g,h,Ml.refl.mono (λ_ h=>h.elim) (λ_ _=>trivial)⟩|cons=>simp[GW]at j
 |md::ms,[],outs,i,S,S',g,h,j,_,_,_,_,_=>by simp[GW]at j|md::ms,e::es,outs,i,S,S',g,h,j,hO,hJ,hP,X,hL=>by
  have next:∀(S1:St) (g1:Gh) (N:Blk) (ok:CN->Prop) (os:List (List T)),Inv F S1 g1 a w->Ml S S1 g g1 N ok->GW S0 S1 ms es os=some S'->Q5 w R Z D U us (i+1) ms os ->
   (∀b,N b->∃c,D (i+1) c b)->(∀(G:Nat) y,es[G]?=some y->(∀l∈y.cs,∀r,l.CA=some r->¬ok r)/\∀id c,y=⟨.one,[.bp id 0]⟩->¬ok (.cell id c)) ->
   ∃g',Inv F S' g' a w/\Ml S S' g g' (λb=>∃p c,i+1<=p/\D p c b) (λ_=>True):=by
   intro S1 g1 N ok os h1 hC1 H hO1 hN hok;have ⟨g2,h2,hC2⟩:=AHt I ms es os (i+1) S1 S' g1 h1 H hO1 (by
    intro k Y y hm J;have:=hJ (k+1) Y y (by simpa using hm) (by simpa using J);rw[show i+1+k=i+(k+1) by omega];exact this.iK hC1 (hok k y J).1 (hok k y J).2) (λk y hm J=>hP (k+1) y (by simpa using hm) (by simpa using J))
    (λk G Y e1 e2 hm J hw B hne=>X (k+1) (G+1) Y e1 e2 (by simpa using hm) (by simpa using J) hw (by simpa using B) (by omega)) (by
    intro p c b hp hD;refine(hL p c b (by omega) hD).iK hC1 ?_;intro hn;have ⟨c',hD'⟩:=hN b hn;exact I p c (i+1) c' b hD (.inl (by omega)) hD')
   refine⟨g2,h2,(hC1.trans hC2).mono ?_ (λ_ _=>trivial)⟩;rintro b (j|⟨p,c,hp,hD⟩);have ⟨c,hD⟩:=hN b j;exact⟨i+1,c,Aj _,hD⟩;exact⟨p,c,by omega,hD⟩
  have pass:Q5 w R Z D U us (i+1) ms outs->GW S0 S ms es outs=some S'->∃g',Inv F S' g' a w/\Ml S S' g g' (λb=>∃p c,i+1<=p/\D p c b) (λ_=>True):=
   λhO1 H=>next S g _ _ outs h Ml.refl H hO1 (λ_ h=>h.elim) (λ_ _ _=>⟨λ_ _ _ _ h=>h,λ_ _ _ h=>h⟩)
  have hj:=hJ 0 md e rfl rfl;cases md with
  |v=>exact pass hO (by simpa[GW] using j)|p=>exact pass hO (by simpa[GW] using j)|o=>exact pass hO (by simpa[GW] using j)|b=>
   obtain⟨id,ls,rfl,h2,h3,h4,h5⟩:=hj;obtain⟨o,os,rfl,⟨blk,us',E,k1,k2,k3,k4⟩,hO1⟩:=hO;simp[DV]at h3 h4;simp[GW]at j;split at j;rename_i ls0 ls1 h0 h1;rw[h2]at h0;cases h0;split at j;rename_i hlen;rw[h4]at k1;cases k1;have ⟨⟨E',hE'⟩,_⟩:=h.bxs id ls1 h1;rw[hE']at k2;have hbv:g.bv id=us':=by have:=Option.some.inj k2;simp only[Obj.cells.injEq]at this;simpa using congrArg Array.toList this.1
   subst hbv;have ⟨g1,q1,q2⟩:=h.AWl h1 (h5 ls1 h1) hlen ⟨k4.1,λc x hx=>let ⟨z,hz,hV⟩:=k4.2 c x hx;⟨z,hz,hV.up h3⟩⟩;refine next _ g1 _ _ os q1 q2 j hO1 (λ_ h=>h.elim) ?_;intro G y B;have hs:=X 0 (G+1) .b _ y rfl rfl rfl (by simpa using B) (by omega);constructor
   rintro l hl r hr ⟨c,rfl⟩;have:=(IK hs (l:=.bp id 0) (by simp) hl).2.1 id (by simp[names]);exact QG this hr;rintro id' c rfl ⟨c',hc'⟩;cases hc';have:=(IK hs (l:=.bp id 0) (l':=.bp id 0) (by simp) (by simp)).2.1 id (by simp[names]);simp[Gb,AS.Nn]at this;cases j;cases j
  |m=>
   obtain⟨o,os,rfl,k1,hO1⟩:=hO;simp[GW]at j;split at j;rename_i S1 hf;simp[Job,DV]at hj;have ⟨g1,q1,q2⟩:=Px e.cs o (U i) (D (i+1)) S S1 g h hf hj k1.2 (λc b hD=>hL (i+1) c b (Aj _) hD) (λc d b hne hD=>I _ _ _ _ b hD (.inr hne)) (hP 0 e rfl rfl);refine next _ g1 _ _ os q1 q2 j hO1 (λ_ h=>h) ?_;intro G y B;have hs:=X 0 (G+1) .m e y rfl rfl rfl (by simpa using B) (by omega);constructor
   rintro l hl r hr ⟨l0,L,O⟩;exact(IK hs L hl).1 r O hr;rintro id c rfl ⟨l0,L,O⟩;have:=(IK hs L (l':=.bp id 0) (by simp)).2.2 id (by simp[names]);exact QG this O;cases j
def Fix.Le(F F':Fix):Prop:=∃Z w1,F'=F.ext Z w1/\(∀b,F.K b->w1.heap[b]?=F.w0.heap[b]?)/\Still F.w0 w1/\∀b,Z b->¬F.K b
theorem Fix.Le.refl:F.Le F:=⟨λ_=>False,F.w0,by simp[Fix.ext],λ_ _=>rfl,.refl,λ_ h=>h.elim⟩
theorem Fix.Le.trans{F1 F2}(h:F.Le F1)(e:F1.Le F2):F.Le F2:=by obtain⟨Z1,w1,rfl,j,q,y⟩:=h;obtain⟨Z2,I,rfl,E,G,H⟩:=e;refine⟨λb=>Z1 b\/Z2 b,I,?_,λb c=>(E b (.inl c)).trans (j b c),q.trans G,?_⟩;simp[Fix.ext];grind;rintro b (c|c);exact y b c;exact λB=>H b c (.inl B)
theorem Fix.Le.P{F1}(h:F.Le F1):F1.P=F.P/\F1.A=F.A/\F1.N=F.N/\F1.pv=F.pv/\F1.β0=F.β0:=by obtain⟨Z1,w1,rfl,_⟩:=h;exact⟨rfl,rfl,rfl,rfl,rfl⟩
theorem ADl{R}{Z}{D}{U}{us}:∀(ms:List Md) (i:Nat) (outs:List (List T)),Q5 w' R Z D U us i ms outs->∀(k:Nat),ms[k]?=some Md.b ->
 ∃(blk:Nat) (c:List Value) (E:TypeId),us[i+k]?=some (.pointer (some ⟨blk,0,none⟩))/\w'.heap[blk]?=some (.cells c.toArray E (0,0))/\c.length=(U (i+k)).length
 | [],_,_,_,k,e=>by simp at e|md::ms,i,outs,h,k,e=>by
  have rcs:∀os,Q5 w' R Z D U us (i+1) ms os->0<k->∃(blk:Nat) (c:List Value) (E:TypeId),us[i+k]?=some (.pointer (some ⟨blk,0,none⟩))/\w'.heap[blk]?=some (.cells c.toArray E (0,0))/\c.length=(U (i+k)).length:=by intro os j y;obtain⟨q,rfl⟩:∃q,k=q+1:=⟨k-1,by omega⟩;have:=ADl ms (i+1) os j q (by simpa using e);rw[show i+1+q=i+(q+1) by omega]at this;exact this
  by_cases y:k=0;subst y;simp[AN,AE]at e;subst e;obtain⟨o,os,rfl,⟨blk,c,E,B,G,H,_⟩,_⟩:=h;exact⟨blk,c,E,B,G,H⟩;cases md with
  |b=>obtain⟨o,os,rfl,_,j⟩:=h;exact rcs os j (by omega)
  |m=>obtain⟨o,os,rfl,_,j⟩:=h;exact rcs os j (by omega)
  |v=>exact rcs outs h (by omega)|p=>exact rcs outs h (by omega)|o=>exact rcs outs h (by omega)
theorem Zq{x}{v}{fp}(h:Own w x v fp):Bz F S g w fp (I0 x) v:=by
 cases x with
 |sl e xs=>exact h|nil=>exact h|mp ks=>exact h|_=>cases h with|sc h _ _=>exact h
theorem Inv.AXr(h:Inv F S g a w){d lab blk:Nat}{E:TypeId}{us vs:List Value}{cs zs:List T}{sh:Sh}{nf:Nat->Blk}(hd:d<F.N)(B:Qt S d (cs.map (Ew lab)) ⟨sh,.bp d 0::zs.map I0⟩=some S')(Z:w.heap[blk]?=some (.cells us.toArray E (0,0)))(hv:LA w (F.R lab) cs us)
 (q:EV F S g blk) (ho:pb w nf zs vs) (hn:∀c b,nf c b->EV F S g b/\b≠blk) (hnn:∀c c' b,c≠c'->nf c b->¬nf c' b):∃g',Inv F S' g' (a.put (some d) (mkV sh (.pointer (some ⟨blk,0,none⟩)::vs))) w:=by
 unfold Qt at B;split at B;cases B;rename_i hp;cases B;have hq:∀x,N8 d (.ow x)=false:=λx=>rfl;have hqt:N8 d (.t .top)=false:=rfl;have hk:=h.kill (N8 d) hq;let S1:=S.kill (N8 d);have Y:∀r,CP S1 r->CP S r:=by rintro r ⟨x,I⟩;have hx':(S.kill (N8 d)).at r=some (.ow x):=I;rw[IZ,AM]at hx';have ⟨l,q,X⟩:=hx';split at X;cases X;subst X;exact⟨x,q⟩
 have hsome:∀id,(get S1.bx id).isSome->(get S.bx id).isSome:=by intro id O;have H:(get (S.kill (N8 d)).bx id).isSome:=O;simpa[St.kill,Dp,FG] using H
 have hfree:∀r l,S1.at r=some l->N8 d l=false:=λr l q=>NK (N8 d) hqt q;have hno:∀l,N8 d l=false->d∉names l/\∀c,l.CA≠some (.cell d c):=by intro l q;simp[N8,Ff]at q;exact⟨ch q.2,λc=>QG q.2⟩
 have hI:=hk.AKv (w':=w) (d:=d) (blk:=blk) (E:=E) (vs:=us) (ls:=cs.map (Ew lab)) (nf:=λ_ _=>False) Still.refl (λ_ _ _=>rfl) Z q.1 (λr hr=>q.2.1 r (Y r hr)) (λid _ hs heq=>q.2.2 id (hsome id hs) heq.symm)
  (.inr ⟨λr l q _=>(hno l (hfree r l q)).1,λl j=>by obtain⟨x,_,rfl⟩:=Ef.1 j;cases x<;>simp[Ew,names]⟩) (by
  rintro l (j|⟨r,hr,_⟩) c x hroot _;obtain⟨y,_,rfl⟩:=Ef.1 j;cases y<;>simp[Ew,AS.CA]at hroot;exact absurd hroot ((hno l (hfree r l hr)).2 c)) (by simpa using hv.1) (by
  intro c l j;rw[A0,AM]at j;obtain⟨x,I,rfl⟩:=j;have ⟨z,hz,hV⟩:=hv.2 c x I;exact⟨z,hz,SH hV⟩) (by
  intro c x I;rw[A0,AM]at I;have ⟨y,_,G⟩:=I;exact absurd G P5) (λhp'=>absurd hp' hp)
 have J:∀{l},N8 d l=false->Gb d l=false/\Fb d l=false:=by intro l q;simp[N8,Ff]at q;exact⟨q.2,q.1⟩
 refine⟨_,hI.put (d:=d) (e:=⟨sh,.bp d 0::zs.map I0⟩) (vs:=.pointer (some ⟨blk,0,none⟩)::vs) (nf:=λc b=>c≠0/\nf (c-1) b) hd hp ?_ ?_ ?_⟩;intro r l q _;rw[Nb]at q;cases r with
 |tmp s c=>exact(J (hfree _ _ q)).2|cell b c=>simp only at q;split at q;rw[A0,AM]at q;obtain⟨y,_,rfl⟩:=q;cases y<;>simp[Ew,Fb,AS.CA];exact(J (hfree _ _ q)).2
 intro l j;rcases Ae.1 j with rfl|j;simp[Fb,AS.CA];obtain⟨y,_,rfl⟩:=Ef.1 j;cases y<;>simp[I0,Fb,AS.CA];refine⟨by simp[ho.1],?_,?_⟩;intro c l j;cases c with
 |zero=>simp[AN,AE]at j;subst j;exact⟨_,rfl,by show _=_;simp[Gh.F9]⟩|succ c=>rw[CG,A0,AM]at j;obtain⟨x,I,rfl⟩:=j;have ⟨z,hz,hO⟩:=ho.2 c x I;refine⟨z,by simpa using hz,Zq (hO.congr λb=>?_)⟩;simp
 intro c x I;refine⟨λb B=>(hn _ b B.2).1.1,λr hr b B hf=>?_,λid O B=>?_,λc' x' _ hne b B L=>hnn _ _ b (by omega) B.2 L.2⟩;have ⟨y,G⟩:=hr;rw[Nb]at G;have hS1:∀r',r'=r->(S.kill (N8 d)).at r'=some (.ow y)->False:=by
  rintro r' rfl hy';refine(hn _ b B.2).1.2.1 r' (Y r' ⟨y,hy'⟩) ?_;cases r' with
  |tmp s c=>exact hf|cell b' c=>
   have L:b'≠d:=by rintro rfl;simp only[if_true]at G;rw[A0,AM]at G;have ⟨t,_,ht⟩:=G;exact P5 ht
   simpa[Gh.F9,L] using hf
 cases r with
 |tmp s c=>exact hS1 _ rfl G|cell b' c=>simp only at G;split at G;rw[A0,AM]at G;have ⟨t,_,ht⟩:=G;exact P5 ht;exact hS1 _ rfl G
 by_cases hi:id=d;subst hi;exact(hn _ _ B.2).2 (by simp[Gh.F9]);have H:(get S.bx id).isSome:=hsome id (by simpa[GQ,hi] using O);have:=(hn _ _ B.2).1.2.2 id H;simp[Gh.F9,hi]at this
theorem EV.fresh(h:Inv F S g a w){b}(H:w.heap.size<=b):EV F S g b:=by refine⟨λy=>?_,λr B q=>?_,λid c I=>?_⟩;have:=h.rlt b y;have:=h.size;omega;have ⟨x,G⟩:=B;have ⟨v,_,j⟩:=h.C6 r _ G;have:=Own.lt j b q;omega;have ⟨ls,e⟩:=Bq.1 c;have ⟨⟨E,hE⟩,_⟩:=h.bxs id ls e;have:=(BJ.1 hE).1;omega
set_option maxHeartbeats 1000000 in
theorem AWM(h:Inv F S g a w){d:Nat}{f:CQ}{es:List Ent}{us:List Value}{vs:List V}{sh:Sh}{cs:List T}{outs:List (List T)}(hd:d<F.N)(hrd:∀(i:Nat) e,es[i]?=some e->∃u,us[i]?=some u/\Rd F S g w e u)(hlen:us.length=es.length)
 (hpre:pre f es S=some (S1,vs)) (hpost:post d f es S S1 sh cs outs=some S2) {n:Nat} (hct:∀R G U,OH F.A F.P w R G U (FQ f) vs us ->
  Calls F.P n us.toArray w λe w'=>∃v Z D,e=.returned v/\pW w w' R G U (FQ f) us sh cs outs v Z D) :
 Calls F.P n us.toArray w λe w'=>∃v F' g',e=.returned v/\F.Le F'/\Inv F' S2 g' (a.put (some d) v) w'/\∀b,b<w.heap.size->¬qF S g (FQ f) es b->w'.heap[b]?=w.heap[b]?:=by
 unfold pre at hpre;split at hpre;cases hpre;rename_i hcl;have hcl':Re [] (FQ f) es=false:=by simpa using hcl
 have ⟨R,G,U,g1,hT,hA,hLs,hB,hGC,hel⟩:=AWB h hrd hlen hcl' hpre;have hclash:=bD hcl' hel;refine(hct R G U hA).mono ?_;rintro e w' ⟨v,Z,D,rfl,hK⟩;have h1:=hT.inv;have hes:∀{i:Nat} {md:Md},(FQ f)[i]?=some md->∃e,es[i]?=some e:=by intro i md O;have:i<(FQ f).length:=(AO.1 O).1;exact⟨es[i]'(by omega),by simp[hel,this]⟩
 have hG:∀{i c b},G i c b->∃md e,(FQ f)[i]?=some md/\es[i]?=some e/\((md.Fl=true/\EV F S1 g1 b)\/(md=.b/\∃id,e=⟨.one,[.bp id 0]⟩/\(get S.bx id).isSome/\b=g.β id)):=by
  intro i c b I;have hi:=hA.out i c b I;have O:(FQ f)[i]?=some (FQ f)[i]:=by simp[hi]
  have ⟨e,X⟩:=hes O;refine⟨_,e,O,X,?_⟩;by_cases ht:((FQ f)[i]).Fl=true;exact .inl ⟨ht,hLs i c b _ O ht I⟩;have H:=(hB i _ e O X).1;have ⟨j,md,e',k1,k2,k3,k4⟩:=hGC i c b I;have hmd:(FQ f)[i]=.b:=by
   have J:=hA.arg i _ (vs[i]'(by rw[hA.ADU];exact hi)) (us[i]'(by rw[hA.nJ];exact hi)) O (by simp[hA.ADU,hi]) (by simp[hA.nJ,hi]);generalize (FQ f)[i]=md at *;cases md with
   |v=>
    unfold dZ at J;split at J<;>first|exact absurd I (J.2.2 c b)|exact absurd I (J.2 c b)|(rename_i h1 _;cases h1)|exact J.elim
   |p=>
    unfold dZ at J;split at J<;>first|exact absurd I (J.2 c b)|(rename_i h1 _;cases h1)|exact J.elim
   |b=>rfl|o=>simp[Md.Fl]at ht|m=>simp[Md.Fl]at ht
  rw[hmd]at H;have ⟨id,ls,q1,q2,q3,q4,q5,q6,q7⟩:=H;exact .inr ⟨hmd,id,q1,by simp[q2],((q5 c b).1 I).2⟩
 have hbxs:∀id,(get S1.bx id).isSome->(get S.bx id).isSome:=hT.bx;have hGK:∀{i c b},G i c b->¬F.K b:=by intro i c b I hk;obtain⟨md,e,_,_,⟨_,L⟩|⟨_,id,_,hs,rfl⟩⟩:=hG I;exact L.1 hk;exact h.bxR id hs hk
 have hGal:∀{i c b r},G i c b->CP S1 r->¬g1.fp r b:=by intro i c b r I hr hf;obtain⟨md,e,_,_,⟨_,L⟩|⟨_,id,_,hs,rfl⟩⟩:=hG I;exact L.2.1 r hr hf;exact h.F3 r id (hT.al r hr) hs (hT.fp r _ hf)
 let B:Nat->Prop:=λid=>∃i:Nat,(FQ f)[i]?=some .b/\es[i]?=some ⟨.one,[.bp id 0]⟩;have hnew:∀id,B id->∃us':List Value,(∃E,w'.heap[g1.β id]?=some (.cells us'.toArray E (0,0)))/\us'.length=(g1.bv id).length:=by rintro id ⟨i,O,X⟩;have ⟨id',ls,q1,q2,q3,q4,q5,q6,q7⟩:=(hB i _ _ O X).1;cases q1;have ⟨blk,us',E,k1,k2,k3⟩:=ADl (FQ f) 0 outs hK.outs i O;rw[A1,q6]at k1;rw[A1]at k3;cases k1;exact⟨us',⟨E,by rw[hT.β];exact k2⟩,by rw[k3,q4,hT.bv]⟩
 have ⟨nb,hnb⟩:∃nb:Nat->List Value,(∀id,B id->(∃E,w'.heap[g1.β id]?=some (.cells (nb id).toArray E (0,0)))/\(nb id).length=(g1.bv id).length)/\∀id,¬B id->nb id=g1.bv id:=by
  classical
  refine⟨λid=>if H:B id then (hnew id H).choose else g1.bv id,λid H=>?_,λid H=>by simp[H]⟩;simp only[H,dif_pos];exact(hnew id H).choose_spec
 have h2:Inv F S1 { g1 with bv:=nb} a w':=by refine h1.called (B:=B) hK.still ?_ ?_ hnb.2;intro b H hc;refine hK.frame b H ?_;intro i c I;rcases hc with hc|⟨r,hr,hc⟩|⟨id,hid,hnB,rfl⟩;exact hGK I hc;exact hGal I hr hc;obtain⟨md,e,O,X,⟨_,L⟩|⟨rfl,id',rfl,hs,heq⟩⟩:=hG I;exact L.2.2 id hid rfl;rw[hT.β]at heq;have:=h.G1 id id' (hbxs id hid) hs heq;subst this;exact hnB ⟨i,O,X⟩;rintro id ls ⟨i,O,X⟩ hls;have ⟨id',ls',q1,q2,q3,q4,q5,q6,q7⟩:=(hB i _ _ O X).1;cases q1;have ⟨⟨E,hE⟩,L⟩:=hnb.1 id ⟨i,O,X⟩;exact⟨q7 ls hls,E,hE,L⟩
 have hSp:∀b,qJ w (FQ f) G b->EV F S1 g1 b:=by rintro b (hf|⟨j,d',md,O,ht,I⟩);exact EV.fresh h1 hf;exact hLs j d' b md O ht I
 have hZf:∀b,Z b->EV F S1 { g1 with bv:=nb} b:=by intro b hz;have:=hSp b (hK.z b hz).1;exact⟨this.1,this.2.1,this.2.2⟩
 have h3:Inv (F.ext Z w') S1 { g1 with bv:=nb} a w':=h2.ext λb hz=>⟨(hK.z b hz).2,(hZf b hz).2.1,(hZf b hz).2.2⟩
 have hrv:∀r,(∀c id,r=.cell id c->¬B id)->({ g1 with bv:=nb}:Gh).rv r=g.rv r:=by
  intro r hr;rw[<-hT.rv r];cases r with
  |tmp s c=>rfl|cell id c=>simp[Gh.rv,hnb.2 id (hr c id rfl)]
 have hDL:∀p c b,D p c b->EV (F.ext Z w') S1 { g1 with bv:=nb} b:=by intro p c b hd';have hz:=hK.dz p c b hd';have hL:EV F S1 g1 b:=hSp b (hK.df p c b hd');exact⟨λhk=>hk.elim hL.1 hz,hL.2.1,hL.2.2⟩
 unfold post at hpost;split at hpost;rename_i S3 hback;have ⟨g3,h4,hC⟩:=AHt (F:=F.ext Z w') (S0:=S) hK.dd (FQ f) es outs 0 S1 S3 _ h3 hback hK.outs (by
  intro k md e O X;rw[A1];have ⟨hb1,hb2⟩:=hB k md e O X;cases md with
  |b=>have ⟨id,ls,q1,q2,q3,q4,q5,q6,q7⟩:=hb1;exact⟨id,ls,q1,q2,λb H=>H.imp (λH=>by rw[q3]at H;exact H) (λh=>h),by rw[q6];simp[hT.β],q7⟩
  |m=>
   have ⟨q1,q2,q3⟩:=hb1;intro c l L;have ⟨p1,z,p2,p3,p4,p5⟩:=q3 c l L;refine⟨z,p2,?_⟩;have hnoB:∀r,l.CA=some r->∀c id,r=.cell id c->¬B id:=by
    rintro r hr c' id rfl ⟨i,hm',he'⟩;have hne:k≠i:=by rintro rfl;rw[O]at hm';cases hm'
    have hsh:=(hclash k .m e O X rfl).2 i _ he' hne;have:=(IK hsh (A4 L) (l':=.bp id 0) (by simp)).2.2 id (by simp[names]);exact QG this hr
   unfold TX at p1;split at p1;trivial;rename_i r;have ⟨x,u,k1,k2,k3⟩:=p3;have k3':z=u:=k3;exact⟨p4 r none rfl,by rw[hrv r (hnoB r rfl),k2,k3']⟩;rename_i r q e' xs';have ⟨i',j'⟩:=q;have ⟨hal,_,e0,rows,blk,off,len,cap,k1,k2,k3,k4,k5⟩:=p3;have hal1:=p5 r (i',j') e' xs' rfl;have ⟨x1,hx1⟩:=hal1;have ⟨x0,hx0,hlk⟩:=hT.ADV r x1 hx1;rw[k1]at hx0;cases hx0;have ⟨u1,hu1,hO1⟩:=h1.C6 r _ hx1;rw[hT.rv r,k2]at hu1;cases hu1;have hfp:g1.fp r blk:=by
    have hO:Own w x1 (.slice (some ⟨blk,off,none⟩) len cap) (g1.fp r):=hO1;rcases hlk with rfl|⟨e2,l1,l2,hh1,rfl,_⟩;cases hO with|sc hh _ _=>exact hh.elim|sl c f p1 p2 p3 p4 p5 p6 p7 p8 p9 p10=>exact(p10 _).2 (.inl rfl)
    cases hO with|sc hh _ _=>exact hh.elim|sl c f p1 p2 p3 p4 p5 p6 p7 p8 p9 p10=>exact(p10 _).2 (.inl rfl)
   have hblt:blk<w.heap.size:=Own.lt hO1 blk hfp;have hsame:=hK.frame blk hblt λi c I=>hGal I ⟨x1,hx1⟩ hfp;have hrows:∀row∈rows,row.length=e0:=by
    have ⟨u0,hu0,hO0⟩:=h.C6 r _ k1;have hO:Own w (.sl e0 rows) u0 (g.fp r):=hO0;cases hO with
    |sc hh _ _=>exact hh.elim|nl=>simp|sl c f p1 p2 p3=>exact p3
   refine⟨e0,rows.length,blk,off,len,cap,by rw[hrv r (hnoB r rfl)];exact k2,(KA hsame).trans k5,ug k3,Qb k3 hrows,?_⟩;intro e1 rows1 hr1;have ⟨x2,hx2,hlk2⟩:=hT.ADV r _ hr1;rw[k1]at hx2;cases hx2;rcases hlk2 with hh|⟨e3,l1,l2,hh1,hh2,hh3⟩;cases hh;exact⟨rfl,rfl⟩;cases hh1;cases hh2;exact⟨rfl,hh3⟩;cases p1
  |_=>trivial) (by
  intro k e O X;exact(hB k .m e O X).1.2.1) (λk k' md e e' O X hw he' hne=>(hclash k md e O X hw).2 k' e' he' hne) (λp c b _ hd'=>hDL p c b hd')
 have hLD0:∀c b,D 0 c b->EV (F.ext Z w') S3 g3 b:=by intro c b hd';refine(hDL 0 c b hd').iK hC ?_;rintro⟨p,c',hp,hd''⟩;exact hK.dd 0 c p c' b hd' (.inl (by omega)) hd''
 have hLe:F.Le (F.ext Z w'):=⟨Z,w',rfl,λb H=>((hK.frame b (BZ (h.rlt b H) h.size) λi c I=>hGK I H).trans (h.FZ b H)),h.still.trans hK.still,λb hz=>(hZf b hz).1⟩;have hfr:∀b,b<w.heap.size->¬qF S g (FQ f) es b->w'.heap[b]?=w.heap[b]?:=λb H hn=>hK.frame b H λi c I=>hn (hGC i c b I);have hlab:∀{k lab b},cV f S es k=some lab->R k b\/Z b->(F.ext Z w').R lab b:=by
  intro k lab b L H;unfold cV at L;split at L;rename_i e X;split at L;cases L;rename_i hnp;refine H.imp (λH=>?_) id;have hk:k<(FQ f).length:=by rw[<-hel];exact(AO.1 X).1
  refine(hB k (FQ f)[k] e (by simp[hk]) X).2 ?_ lab L b H;intro hp;exact hnp (by simp[hk,hp]);cases L
 have owned:S3.Eo d (Aai sh cs)=some S2->(∃us,v=mkV sh us/\pb w' (D 0) cs us)->∃v' F' g',Ending.returned v=.returned v'/\F.Le F'/\Inv F' S2 g' (a.put (some d) v') w'/\∀b,b<w.heap.size->¬qF S g (FQ f) es b->w'.heap[b]?=w.heap[b]?:=by
  rintro hp ⟨us',rfl,ho1,ho2⟩;have hcl':Cells (F.ext Z w') S3 g3 w' (cs.map I0) us' (D 0):=by refine⟨by simpa using ho1,?_,?_⟩;intro c l L;rw[A0,AM]at L;obtain⟨x,hx,rfl⟩:=L;have ⟨z,hz,hO⟩:=ho2 c x hx;exact⟨z,hz,Zq hO⟩;intro c x hx;refine⟨λb H=>(hLD0 c b H).1,λr hr b H=>(hLD0 c b H).2.1 r hr,λid hid H=>(hLD0 c _ H).2.2 id hid rfl,λc' x' _ hne b H=>hK.dd 0 c 0 c' b H (.inr hne)⟩
  have ⟨g',I⟩:=h4.Eo hp hd hcl';exact⟨_,_,g',rfl,hLe,I,hfr⟩
 have Y:=hK.res;cases sh with
 |one=>exact owned hpost Y|agg=>exact owned hpost Y|tup ns=>exact owned hpost Y|ptr k=>
  simp only at hpost;split at hpost;rename_i lab L;obtain⟨blk,us',E,rfl,q2,q3,q4,q5,q6⟩:=Y;have hLb:EV (F.ext Z w') S3 g3 blk:=by
   have h0:EV (F.ext Z w') S1 { g1 with bv:=nb} blk:=by have:=hSp blk q4;exact⟨λhk=>hk.elim this.1 q5,this.2.1,this.2.2⟩
   refine h0.iK hC ?_;rintro⟨p,c',hp,hd''⟩;exact q6 p c' hd''
  have ⟨g',I⟩:=h4.AXr (zs:=[]) (vs:=[]) (nf:=λ_ _=>False) hd hpost q2 ⟨q3.1,λc x hx=>let ⟨z,hz,hV⟩:=q3.2 c x hx;⟨z,hz,hV.up λb H=>hlab L H⟩⟩ hLb ⟨rfl,λc x hx=>by simp at hx⟩ (λ_ _ h=>h.elim) (λ_ _ _ _ h=>h.elim);exact⟨_,_,g',rfl,hLe,I,hfr⟩;cases hpost
 |T8 k n=>
  simp only at hpost;split at hpost;rename_i lab L;obtain⟨blk,us',E,vs2,rfl,q2,q3,q4,q5,q6,q8,q7⟩:=Y;have hLb:EV (F.ext Z w') S3 g3 blk:=by
   have h0:EV (F.ext Z w') S1 { g1 with bv:=nb} blk:=by have:=hSp blk q4;exact⟨λhk=>hk.elim this.1 q5,this.2.1,this.2.2⟩
   refine h0.iK hC ?_;rintro⟨p,c',hp,hd''⟩;exact q6 p c' hd''
  obtain⟨g',I⟩:=h4.AXr hd hpost q2 ⟨q3.1,λc x hx=>let ⟨z,hz,hV⟩:=q3.2 c x hx;⟨z,hz,hV.up λb H=>hlab L H⟩⟩ hLb q7 (λc b H=>⟨hLD0 c b H,λX=>q6 0 c (X▸H)⟩) (λc c' b hne H=>hK.dd 0 c 0 c' b H (.inr hne));subst q8;refine⟨_,_,g',rfl,hLe,?_,hfr⟩;simpa[mkV,IP] using I;cases hpost
 |vw k=>simp only at hpost;split at hpost;rename_i lab L;obtain⟨x,rfl,hV⟩:=Y;obtain⟨g',I⟩:=SY h4 hd (by simpa using hpost) (λy=>P5) (SH (hV.up λb H=>hlab L H));exact⟨_,_,g',rfl,hLe,I,hfr⟩;cases hpost
 cases hpost
end
section
variable{F:Fix}{S S':St}{g g':Gh}{a a':Act}{w w':World}
theorem Inv.Aa3(h:Inv F S g a w){r:CN}{L:AS}{v:Value}(hr:S.at r=some (.t .top))(hv:g.rv r=some v)(hn:∀x,L≠.ow x)(hL:Bz F S g w (g.fp r) L v):Inv F (S.Bk r L) g a w:=by
 have B:∀q,(S.Bk r L).at q=if q=r then some L else S.at q:=λq=>FR hr _ q
 have hdead:¬CP S r:=by rintro⟨y,E⟩;rw[hr]at E;cases E
 have e:∀q,CP (S.Bk r L) q->CP S q:=by rintro q ⟨y,E⟩;rw[B]at E;split at E;exact(hn _ (Option.some.inj E)).elim;exact⟨y,E⟩
 have hsome:∀id,(get (S.Bk r L).bx id).isSome=(get S.bx id).isSome:=λid=>D8;have O:∀q l u,Bz F S g w (g.fp q) l u->Bz F (S.Bk r L) g w (g.fp q) l u:=by
  intro q l u j;refine j.tr ?_ (λ_ _=>rfl) (λ_ _=>rfl) (λ_ _=>rfl);intro G Y;have J:G≠r:=by rintro rfl;exact hdead (j.alive Y)
  exact⟨by rw[B,Aa J],rfl,λ_ hb=>hb,λ_ _=>rfl⟩
 refine { C6:=?_,tms:=?_,bxs:=?_,dis:=λG r2 c H=>h.dis G r2 (e _ c) (e _ H),F3:=λG id c hid=>h.F3 G id (e _ c) (by rwa[<-hsome]),Hw:=λG c=>h.Hw G (e _ c),G1:=λid Z c H=>h.G1 id Z (by rwa[<-hsome]) (by rwa[<-hsome]),bxR:=λid c=>h.bxR id (by rwa[<-hsome]),FZ:=h.FZ,rlt:=h.rlt,still:=h.still,defs:=h.defs,tsz:=h.tsz,pin:=?_};intro q l I;rw[B]at I;split at I;rename_i X;subst X;cases I;exact⟨v,hv,O _ _ _ hL⟩;have ⟨u,hu,j⟩:=h.C6 q l I;exact⟨u,hu,O _ _ _ j⟩;intro s e' he;have ⟨e0,c,H,h3⟩:=NZ he;have ⟨p1,p2,p3⟩:=h.tms s e0 c;exact⟨p1,by rw[p2,H],by rw[p3,h3]⟩;intro id ls' I;have ⟨l0,c,H⟩:=J9 I;have ⟨p1,p2⟩:=h.bxs id l0 c;exact⟨p1,by rw[p2,H]⟩;intro p hp;rw[H9]at hp;have ⟨p1,p2⟩:=h.pin p hp;exact⟨p1,λhs=>p2 (by rwa[<-hsome])⟩
theorem Inv.Aa2(h:Inv F S g a w){r r':CN}{x:T}{v:Value}(e:S.at r=some (.t .top))(j:g.rv r=some v)(q:S.at r'=some (.ow x))(c:g.rv r'=some v) :
 Inv F (S.Bk r (.al r' none)) g a w:=h.Aa3 e j (by simp) ⟨x,v,q,c,rfl⟩
theorem AW5(h:Inv F S g a w) r :∃g',Inv F (S.turn r) g' a w:=by
 unfold St.turn;split;case h_2=>exact⟨g,h⟩
 rename_i r' J;split;case h_2=>exact⟨g,h⟩
 rename_i x c;have ⟨v,O,y,u,q1,X,L⟩:=h.C6 r _ J;have L:v=u:=L;subst L;have ⟨v',j,hO⟩:=h.C6 r' _ c;rw[X]at j;cases j;have hO:Own w x v (g.fp r'):=hO;have Z:=h.out c;have e:r≠r':=by rintro rfl;rw[J]at c;cases c
 have H:(S.out r').at r=some (.t .top):=by rw[St.out,IZ,FR c,Aa e,J];simp[NP,AS.CA]
 have I:(S.out r').at r'=some (.t .top):=Zz c;have hL:∀b,g.fp r' b->EV F (S.out r') g b:=by intro b B;refine⟨h.Hw r' ⟨x,c⟩ b B,λq hq G=>?_,λid E he=>?_⟩;have ⟨n1,Y⟩:=JY c hq;exact h.dis q r' Y ⟨x,c⟩ n1 b G B;exact h.F3 r' id ⟨x,c⟩ (XU E) (he▸B)
 have ⟨h2,hC⟩:=Z.ACy H O hO hL;refine⟨_,h2.Aa2 (r:=r') (r':=r) (x:=x) (v:=v) ?_ (by rw[hC.rv];exact X) ?_ (by rw[hC.rv];exact O)⟩;rw[FR H,Aa (Ne.symm e)];exact I;rw[FR H,AY rfl]
theorem AW4(h:Inv F S g a w) r  e :∃g',Inv F (S.cj r e) g' a w:=by
 unfold St.cj;split;exact AW5 h r;split;case h_2=>exact⟨g,h⟩
 rename_i hx;have X:=FR hx (S.nl0 r e);have hdead:¬CP S r:=by rintro⟨x,G⟩;rw[hx]at G;cases G
 let g':Gh:={ g with fp:=λr'=>if r'=r then λ_=>False else g.fp r'}
 have j:g'.fp r=λ_=>False:=by simp[g']
 have c:∀r',r'≠r->g'.fp r'=g.fp r':=λr' E=>by simp[g',E]
 have H:∀r',CP (S.Bk r (S.nl0 r e)) r'->r'=r\/(r'≠r/\CP S r'):=by rintro r' ⟨x,G⟩;by_cases hr:r'=r;exact .inl hr;rw[X,Aa hr]at G;exact .inr ⟨hr,x,G⟩
 refine⟨g',{ C6:=?_,tms:=?_,bxs:=?_,dis:=?_,F3:=?_,Hw:=?_,G1:=?_,bxR:=?_,FZ:=h.FZ,rlt:=h.rlt,still:=h.still,defs:=h.defs,tsz:=h.tsz,pin:=?_}⟩;intro r' l Y;rw[X]at Y;split at Y;subst_vars;cases Y;have ⟨v,hv,J⟩:=h.C6 _ _ hx;have hv0:v=.slice none 0 0:=J;subst hv0;refine⟨_,hv,?_⟩;rw[j];unfold St.nl0;split;split;exact View.nl;exact Own.nl (by simp);exact Own.nl (by simp);rename_i E;have ⟨v,hv,J⟩:=h.C6 r' l Y;refine⟨v,hv,?_⟩;rw[c r' E];refine J.tr ?_ (λ_ _=>rfl) (λ_ _=>rfl) (λ_ _=>rfl);intro y hr1;have L:y≠r:=by rintro rfl;exact hdead (J.alive hr1)
 exact⟨by rw[X,Aa L],rfl,λb q=>by rw[c y L];exact q,λ_ _=>rfl⟩;intro s e' he;have ⟨e0,B,O,h3⟩:=NZ he;have ⟨p1,p2,p3⟩:=h.tms s e0 B;exact⟨p1,by rw[p2,O],by rw[p3,h3]⟩;intro id ls' Y;have ⟨l0,B,O⟩:=J9 Y;have ⟨p1,p2⟩:=h.bxs id l0 B;exact⟨p1,by rw[p2,O]⟩;intro y r2 B O E b q I;rcases H y B with rfl|⟨n1,Z⟩;rw[j]at q;exact q;rcases H r2 O with rfl|⟨n2,a2⟩;rw[j]at I;exact I;rw[c y n1]at q;rw[c r2 n2]at I;exact h.dis y r2 Z a2 E b q I;intro y id B hid q;rcases H y B with rfl|⟨n1,Z⟩;rw[j]at q;exact q;rw[c y n1]at q;exact h.F3 y id Z (by rwa[D8]at hid) q;intro y B b q;rcases H y B with rfl|⟨n1,Z⟩;rw[j]at q;exact q.elim;rw[c y n1]at q;exact h.Hw y Z b q;intro id id' B O;exact h.G1 id id' (by rwa[D8]at B) (by rwa[D8]at O);intro id B;exact h.bxR id (by rwa[D8]at B);intro p hp;rw[H9]at hp;have ⟨p1,p2⟩:=h.pin p hp;exact⟨p1,λhs=>p2 (by rwa[D8]at hs)⟩
theorem AKi(h:Inv F S g a w):∀ns:List (CN×Nat),∃g',Inv F (S.TR ns) g' a w:=by
 intro ns;induction ns generalizing S g with
 |nil=>exact⟨g,h⟩|cons x ns j=>have ⟨r,e⟩:=x;have ⟨g',c⟩:=AW4 h r e;exact j c
end
def Oper.SB(P:Program)(o:Oper)(a:Act)(w:World)(K:Act->World->Prop):Prop:=
 match (execOp a.eval o).run P w with
 |.ok (.value v) w'=>K (a.put o.dst v) w'|.ok .skip w'=>K (a.put o.dst undef) w'|.ok (.enter f args) w'=>Calls P f args w' λe w''=>∃v,e=.returned v/\K (a.put o.dst v) w''|_=>False
theorem Oper.SB.wp{P}{Q}(h:Oper.SB P o a w K):o.wp P a w K Q:=by
 unfold Oper.SB at h;unfold Oper.wp;split at h;rename_i c;rw[c];exact h;rename_i c;rw[c];exact h;next f args w' c=>rw[c];exact h.mono λe y ⟨v,j,q⟩=>by subst j;exact q
 exact h.elim
theorem Oper.SB.mono{P}{K'}(h:Oper.SB P o a w K)(c:∀a w,K a w->K' a w):Oper.SB P o a w K':=by
 unfold Oper.SB at h ⊢;split at h;exact c _ _ h;exact c _ _ h;exact h.mono λe q ⟨v,j,h⟩=>⟨v,j,c _ _ h⟩
 exact h.elim
structure RX(A:Nat->Nat->List Md->Prop)(P:Program):Prop where
 there:∀n id ms,A n id ms->∃fn,P.funcs[n]?=some fn/\fn.body.isNone=false/\(fn.name == "runtime.NumGoroutine")=false
 ct:∀n id ms vs sh cs outs,A n id ms->WY id vs sh cs outs->∀w R G U us,OH A P w R G U ms vs us ->
  Calls P n us.toArray w λe w'=>∃v Z D,e=.returned v/\pW w w' R G U ms us sh cs outs v Z D
theorem Mt.there{A}{P}(hA:RX A P){n}{f}(h:Mt A P n f):∃fn,P.funcs[n]?=some fn/\fn.body.isNone=false/\(fn.name == "runtime.NumGoroutine")=false:=by
 cases h with
 |OW h=>exact hA.there _ _ _ h|mk c e j q=>
  refine⟨_,c,by simp[e],?_⟩;cases f with
  |mk ms rs body=>grind[bZ]
  |OW=>simp[bZ]at j
section
variable{F:Fix}{S S' S1 S2:St}{g g' g1:Gh}{a a':Act}{w w':World}
theorem AHG{l}{v}(h:GA F g w l v):Bz F S g w (λ_=>False) l v/\∀x,l≠.ow x:=by
 match l,h with
 |.t _,h=>exact⟨h,by simp⟩|.und,h=>exact⟨h,by simp⟩|.vw (.old _) _ _,h=>exact⟨h,by simp⟩|.vp (.old _) _,h=>exact⟨h,by simp⟩|.bp _ _,h=>exact⟨h,by simp⟩
theorem tk{P}{n:Nat}{fn}{args}(c:P.funcs[n]?=some fn)(e:fn.body.isNone=false)(h:(fn.name == "runtime.NumGoroutine")=false):(callFunc n args).run P w=.ok (.enter n args) w:=by have j:(program).run P w=.ok P w:=rfl;grind[callFunc,Sem.run_bind,Result.andThen,Bool.false_eq_true,Sem.run_pure]
theorem ALX(hA:RX F.A F.P)(h:Inv F S g a w){o:Oper}{x:XOp}{d:Nat}{f:CQ}{es:List Ent}(j:P8 F.P F.N o.dst o.op x=true)(hm:∀p∈Em o.op x,Mt F.A F.P p.1 p.2)(y:GP x S=some (d,f,es)) :
 ∃(n:Nat) (us:List Value),(execOp a.eval o).run F.P w=.ok (.enter n us.toArray) w/\Mt F.A F.P n f/\us.length=es.length/\(∀(i:Nat) e,es[i]?=some e->∃u,us[i]?=some u/\Rd F S g w e u)/\o.dst=some d/\d<F.N:=by
 have ⟨dst,op,ty,pos,after,guard⟩:=o;dsimp at j hm ⊢;simp[P8,AD]at j;obtain⟨G,j⟩:=j;cases x with
 |call Y f' args'=>
  simp[GP]at y;split at y;rename_i q H;simp[AE,BC]at y;obtain⟨rfl,rfl,rfl⟩:=y;obtain⟨rfl,hd⟩:=DP G rfl;split at j;all_goals try (next B=>cases B;done)
  all_goals try (cases j;done)
  rename_i fn args ats d2 g2 args2 B;cases B;have Z:Mt F.A F.P fn f':=hm (fn,f') (by unfold Em;simp);have ⟨fnd,k1,k2,k3⟩:=Mt.there hA Z;obtain⟨X,r2⟩:=AHN h H j (λp L=>hm p (by simp[Em,L]));refine⟨fn,args.toList.map a.eval,?_,Z,by simp[X],?_,rfl,hd⟩;have O:=tk (w:=w) (args:=args.map a.eval) k1 k2 k3;have E:(args.toList.map a.eval).toArray=args.map a.eval:=B1.1 (by simp);rw[E];have hev:a.eval (.func fn)=.func (.func fn) #[] #[]:=rfl;simp[execOp,resolve,hev,Deferred.ofValue,Ao,A5,Aq,invoke,Kc,Array.append_empty,O];intro i e E;have ⟨o',J,O⟩:=r2 i e E;exact⟨a.eval o',by simp[J],O⟩;cases y
 |Eh Y x' ms args'=>
  simp[GP]at y;split at y;rename_i f' caps q hone H;split at y;rename_i hms;simp[AE,BC]at y;obtain⟨rfl,rfl,rfl⟩:=y;obtain⟨rfl,hd⟩:=DP G rfl;have key:∀(fo:Operand) (args:Array Operand) (ats:Array TypeId),op=.call { callee:=.value fo,args:=args,argTypes:=ats}->CH fo x'=true->RP args.toList args'=true->(∀p∈CK fo x'++FO args.toList args',Mt F.A F.P p.1 p.2) ->
   ∃(n:Nat) (us:List Value),(execOp a.eval { dst:=some Y,op:=op,type:=ty,pos:=pos,after:=after,guard:=guard}).run F.P w=.ok (.enter n us.toArray) w/\Mt F.A F.P n f'/\us.length=(q++caps.map λl=>(⟨.one,[l]⟩:Ent)).length /\
    (∀(i:Nat) e,(q++caps.map λl=>(⟨.one,[l]⟩:Ent))[i]?=some e->∃u,us[i]?=some u/\Rd F S g w e u)/\some Y=some Y/\Y<F.N:=by
   rintro fo args ats rfl h1 h2 h3;have ⟨⟨n,cv,q1,q2,q3,q4⟩,_⟩:=HL h hone h1 (λp L=>h3 p (by simp[L]));have ⟨fnd,k1,k2,k3⟩:=Mt.there hA q2;have ⟨X,r2⟩:=AHN h H h2 (λp L=>h3 p (by simp[L]));refine⟨n,args.toList.map a.eval++cv.toList,?_,q2,by simp[X,q3],?_,rfl,hd⟩;have O:=tk (w:=w) (args:=args.map a.eval++cv) k1 k2 k3;have E:(args.toList.map a.eval++cv.toList).toArray=args.map a.eval++cv:=B1.1 (by simp);rw[E];simp[execOp,resolve,q1,Deferred.ofValue,Ao,A5,Aq,invoke,Kc,O];intro i e E;by_cases hi:i<q.length;rw[BS hi]at E;have ⟨o',J,O⟩:=r2 i e E;exact⟨a.eval o',by rw[BS (by simpa[<-X] using hi)];simp[J],O⟩;rw[BN (by omega),A0,AM]at E;obtain⟨l,hl,rfl⟩:=E;have hlt:i-q.length<caps.length:=(AO.1 hl).1;have y:cv[i-q.length]?=some cv[i-q.length]:=by simp[q3,hlt]
   obtain⟨p1,p2⟩:=AHG (q4 _ l _ hl y);refine⟨cv[i-q.length],?_,[cv[i-q.length]],rfl,rfl,?_,?_⟩;rw[BN (by simp[<-X];omega)];simp[Af,Bi,DS];have:args.size=q.length:=by rw[X];simp
   rw[this];exact y;intro x hx;simp[EL]at hx;exact p2 x hx.symm;intro c l' I;cases c with|zero=>simp[AN,AE]at I;subst I;exact⟨_,rfl,p1⟩|succ c=>simp at I
  split at j;all_goals try (next B=>cases B;done)
  all_goals try (cases j;done)
  rename_i fo args ats d2 f2 ms2 args2 B;cases B;simp[AD]at j;refine key fo args ats rfl j.1 j.2 (λp L=>hm p ?_);cases fo<;>exact L;cases y;cases y
 |_=>simp[GP]at y
def AOE(S:St)(g:Gh)(x:XOp)(b:Nat):Prop:=
 match GP x S with
 |some (_,f,es)=>qF S g (FQ f) es b|none=>Tch S g x b
def AXq(F:Fix)(S:St)(g:Gh)(w:World)(x:XOp)(K:St->Prop)(a':Act)(w':World):Prop:=
 ∃F' S' g',F.Le F'/\Inv F' S' g' a' w'/\K S'/\∀b,b<w.heap.size->¬AOE S g x b->w'.heap[b]?=w.heap[b]?
theorem ATf{Rn}(hA:RX F.A F.P)(hRn:∀f vs sh cs outs,Rn f vs sh cs outs->Ct F.A F.P f vs sh cs outs)(h:Inv F S g a w){o}{x}{K}(B:P8 F.P F.N o.dst o.op x=true)(Z:∀p∈Em o.op x,Mt F.A F.P p.1 p.2)
(hk:opK Rn x S K):Oper.SB F.P o a w (AXq F S g w x K):=by
 rcases hk with ⟨S',j,hK⟩|⟨d,f,es,S1,vs,sh,cs,outs,S2,Y,E,H,hpost,hK⟩;have ⟨n,v,w',g',X,h2,h3,h4⟩:=(ADk h B Z j).eff;have L:GP x S=none:=by cases x<;>first|rfl|(simp[ev]at j)
 have hw:AXq F S g w x K (a.put o.dst v) w':=⟨F,S',g',.refl,h3,hK,by simpa only[AOE,L] using h4⟩;unfold Oper.SB;grind;have ⟨n,us,X,J,y,O,c,hd⟩:=ALX hA h B Z Y;have:=AWM h hd O y E hpost (λR G U hargs=>hRn _ _ _ _ _ H n J w R G U us hargs);unfold Oper.SB;rw[X];refine this.mono ?_;rintro e w' ⟨v,F',g',rfl,hLe,q,I⟩;refine⟨v,rfl,F',S2,g',hLe,by rw[c];exact q,hK,?_⟩;simpa only[AOE,Y] using I
theorem ng{Rn}{F0:Fix}(hA:RX F0.A F0.P)(hRn:∀f vs sh cs outs,Rn f vs sh cs outs->Ct F0.A F0.P f vs sh cs outs){ops}{K}:∀(xs:List (Option (Nat×Bool)×XOp)) (os:List Oper) (F:Fix) (S:St) (g:Gh) (a:Act) (w:World),
 F0.Le F->Inv F S g a w->N9 F0.P F0.N ops os xs=true->(∀p∈NQ os xs,Mt F0.A F0.P p.1 p.2)->dF Rn xs S K ->
 wpList F0.P ops (λex a' w'=>ex=.normal/\∃F' S' g',F0.Le F'/\Inv F' S' g' a' w'/\K S') os a w
 | [],os,F,S,g,a,w,hL0,h,j,H,c=>by
  cases os with
  |nil=>exact⟨rfl,F,S,g,hL0,h,c⟩|cons=>simp[N9]at j
 |(gd,x)::xs,os,F,S,g,a,w,hL0,h,j,H,c=>by
  have ⟨hP,hFA,hN,_,_⟩:=hL0.P;rw[<-hP,<-hFA]at hA hRn;rw[<-hP,<-hN]at j;rw[<-hP,<-hFA]at H;rw[<-hP];by_cases hdrop:∃O,x=.drop O;obtain⟨O,rfl⟩:=hdrop;have e:gd.isNone=true/\N9 F.P F.N ops os xs=true:=by cases os<;>simpa[N9] using j
  have G:gd=none:=by simpa using e.1
  subst G;have ⟨b,y,c⟩:=c;simp[wanted,AE]at y;subst y;rcases c with ⟨_,c⟩|⟨y,_⟩;rcases c with ⟨S',B,c⟩|⟨d,f,es,S1,vs,sh,cs,outs,S2,X,_⟩;simp[ev,AE]at B;subst B;have:=ng (F0:=F0) (by rw[<-hP,<-hFA];exact hA) (by rw[<-hP,<-hFA];exact hRn) xs os F _ g a w hL0 (AKf h O) (by rw[<-hP,<-hN];exact e.2) (by rw[<-hP,<-hFA];exact λp J=>H p (by cases os<;>simpa[NQ] using J)) c;rw[<-hP]at this;exact this;simp[GP]at X;cases y;by_cases q:∃ns,x=.SL ns;obtain⟨ns,rfl⟩:=q;have e:gd.isNone=true/\N9 F.P F.N ops os xs=true:=by cases os<;>simpa[N9] using j
  have G:gd=none:=by simpa using e.1
  subst G;have ⟨b,y,c⟩:=c;simp[wanted,AE]at y;subst y;rcases c with ⟨_,c⟩|⟨y,_⟩;rcases c with ⟨S',B,c⟩|⟨d,f,es,S1,vs,sh,cs,outs,S2,X,_⟩;simp[ev,AE]at B;subst B;have ⟨g',Y⟩:=AKi h ns;have:=ng (F0:=F0) (by rw[<-hP,<-hFA];exact hA) (by rw[<-hP,<-hFA];exact hRn) xs os F _ g' a w hL0 Y (by rw[<-hP,<-hN];exact e.2) (by rw[<-hP,<-hFA];exact λp J=>H p (by cases os<;>simpa[NQ] using J)) c;rw[<-hP]at this;exact this;simp[GP]at X;cases y;cases os with
  |nil=>cases x<;>first|(simp[N9]at j;done)|exact absurd ⟨_,rfl⟩ hdrop|exact absurd ⟨_,rfl⟩ q
  |cons o os=>
   have e:(Ov ops o.guard gd=true/\P8 F.P F.N o.dst o.op x=true)/\N9 F.P F.N ops os xs=true:=by cases x<;>first|exact absurd ⟨_,rfl⟩ hdrop|exact absurd ⟨_,rfl⟩ q|simpa[N9,AD] using j
   have I:(∀p∈Em o.op x,Mt F.A F.P p.1 p.2)/\∀p∈NQ os xs,Mt F.A F.P p.1 p.2:=by
    have:NQ (o::os) ((gd,x)::xs)=Em o.op x++NQ os xs:=by cases x<;>first|exact absurd ⟨_,rfl⟩ hdrop|exact absurd ⟨_,rfl⟩ q|rfl
    rw[this]at H;exact⟨λp J=>H p (by simp[J]),λp J=>H p (by simp[J])⟩
   have ⟨⟨hg,ho⟩,L⟩:=e;have ⟨b,y,c⟩:=c;have hw:=WN h hg y;simp only[wpList,hw];rcases c with ⟨rfl,c⟩|⟨rfl,S',hs,c⟩;simp only[if_true];left;refine Oper.SB.wp ((ATf hA hRn h ho I.1 c).mono ?_);rintro a' w' ⟨F',S',g',hLe,E,Z,_⟩;have:=ng (F0:=F0) (by rw[<-hP,<-hFA];exact hA) (by rw[<-hP,<-hFA];exact hRn) xs os F' S' g' a' w' (hL0.trans hLe) E (by rw[<-hP,<-hN];exact L) (by rw[<-hP,<-hFA];exact I.2) Z;rw[<-hP]at this;exact this;simp only[BP,if_false];have ⟨g',E⟩:=zi h ho hs;have:=ng (F0:=F0) (by rw[<-hP,<-hFA];exact hA) (by rw[<-hP,<-hFA];exact hRn) xs os F S' g' _ w hL0 E (by rw[<-hP,<-hN];exact L) (by rw[<-hP,<-hFA];exact I.2) c;rw[<-hP]at this;exact this
theorem APY(h:Inv F S g a w){fp}{l}{v}{b}(q:S.Py l=true)(L:Bz F S g w fp l v)(y:MG v=some b) :
 F.K b\/(∃r,l.CA=some r/\CP S r/\g.fp r b)\/∃id∈names l,(get S.bx id).isSome/\b=g.β id:=by
 have ofOwn:∀{x:T} {u:Value} {S0:Blk},cQ x=false->Own w x u S0->MG u=some b->S0 b:=by
  intro x u S0 B O y;cases O with
  |sc Z _ _=>
   cases x with
   |top=>cases B
   |un=>cases B
   |sl=>exact Z.elim|mp=>exact Z.elim|_=>have hs':u=_:=Z;subst hs';simp[MG]at y
  |nl=>simp[MG]at y|mp=>simp[MG]at y|sl c f E J G h4 h5 h6 h7 h8 h9 Y=>simp[MG,AE]at y;subst y;exact(Y _).2 (.inl rfl)
 match l,L,q with
 |.bp id off,L,q=>have hv:v=_:=L;subst hv;simp[MG,AE]at y;exact .inr (.inr ⟨id,by simp[names],q,y.symm⟩)
 |.ep r i j,⟨e,xs,blk,off,len,cap,E,J,G,h4⟩,_=>subst h4;simp[MG,AE]at y;subst y;have ⟨u,hu,O⟩:=h.C6 r _ E;rw[J]at hu;cases hu;exact .inr (.inl ⟨r,rfl,⟨_,E⟩,ofOwn rfl O rfl⟩)
 |.vp (.own r p) (c::cs),⟨I,ad,c0,f,E,J,G⟩,_=>subst E;simp[MG,AE]at y;subst y;exact .inr (.inl ⟨r,rfl,I,(G 0 c rfl).1⟩)
 |.vp (.old k) (c::cs),⟨ad,c0,E,J,G⟩,_=>subst E;simp[MG,AE]at y;subst y;exact .inl (F.RK k _ (G 0 c rfl).1)
 |.vp _ [],_,q=>simp[St.Py]at q|.al r sub,⟨x,u,E,J,G⟩,q=>
  have B:cQ x=false:=by simpa[St.Py,E] using q
  have ⟨u',X,O⟩:=h.C6 r _ E;rw[J]at X;cases X;have hO:Own w x u (g.fp r):=O;refine .inr (.inl ⟨r,rfl,⟨_,E⟩,?_⟩);cases sub with
  |none=>have H:v=u:=G;subst H;exact ofOwn B hO y
  |some p=>
   have ⟨lo,n⟩:=p;cases x with
   |sl e xs=>
    obtain⟨blk,off,len,cap,off',cap',q1,q2,_⟩|⟨_,q2,_⟩:=G;subst q1 q2;simp[MG,AE]at y;subst y;exact ofOwn rfl hO rfl;subst q2;simp[MG]at y
   |_=>have ⟨H,_⟩:=G;subst H;exact ofOwn B hO y
 |.vw (.own r p) e xs,⟨I,⟨S0,hS0,hO⟩,_⟩,_=>exact .inr (.inl ⟨r,rfl,I,hS0 b (ofOwn rfl hO y)⟩)|.t .nil,L,_=>have hv:v=_:=L;subst hv;simp[MG]at y
 |.t (.int _ _),_,q=>simp[St.Py]at q|.t (.bool _),_,q=>simp[St.Py]at q|.t (.str _),_,q=>simp[St.Py]at q|.t .np,_,q=>simp[St.Py]at q|.t .top,_,q=>simp[St.Py]at q|.t .un,_,q=>simp[St.Py]at q|.t (.sl _ _),_,q=>simp[St.Py]at q|.vw (.old _) _ _,_,q=>simp[St.Py]at q|.und,_,q=>simp[St.Py]at q|.ow _,_,q=>simp[St.Py]at q|.fn _ _,_,q=>simp[St.Py]at q
theorem ADZ{l}{id}(h:id∈names l):Gb id l=true:=by cases l<;>simp[names]at h;simp[Gb,AS.Nn,h];grind[Gb,List.any_eq_true,AS.Nn]
theorem iC{l}:∀{ms:List Md} {es:List Ent},LY l ms es=true->∀(i:Nat) md e,ms[i]?=some md->es[i]?=some e->md.writes=true->∀l'∈e.cs,Td l' l=false
 | [],_,_,i,md,e,h,_,_=>by simp at h|_::_,[],_,_,_,_,_,h,_=>by simp at h|y::ms,B::es,h,i,md,e,j,c,q=>by
  simp[LY,AD,DJ,B2,BE]at h;cases i with
  |zero=>grind[List.getElem?_cons_zero,Option.some.injEq]
  |succ i=>exact iC h.2 i md e (by simpa using j) (by simpa using c) q
theorem AHP(h:Inv F S g a w){y}{l}{r}(c:S.one y=some l)(e:l.CA=some r):CP S r:=by
 cases y with
 |tmp s=>exact(HL h c (o:=.tmp s) (by simp[CH]) (by simp[CK])).1.alive e|k x=>simp[St.one,St.rd]at c;cases c;cases x<;>cases e
 |fn f=>simp[St.one,St.rd]at c;cases c;cases e
theorem AXR(h:Inv F S g a w){x:XOp}{s:Nat}{l:AS}{b:Nat}(hs:S.one (.tmp s)=some l)(hsafe:Wr x S l=true)(hb:MG (a.tmps.getD s undef)=some b):b<w.heap.size/\¬AOE S g x b:=by
 have hl:=(HL h hs (o:=.tmp s) (by simp[CH]) (by simp[CK])).1;have hev:a.eval (.tmp s)=a.tmps.getD s undef:=by simp[Act.eval]
 rw[hev]at hl;simp only[Wr,AD]at hsafe;have ⟨hfirm,hsafe⟩:=hsafe;have hcases:=APY h hfirm hl hb;have flt:∀r,CP S r->g.fp r b->b<w.heap.size:=by rintro r ⟨y,hy⟩ O;have ⟨u,_,ho⟩:=h.C6 r _ hy;exact Own.lt ho b O
 refine⟨?_,?_⟩;rcases hcases with Y|⟨r,_,c,O⟩|⟨id,_,G,rfl⟩;exact BZ (h.rlt b Y) h.size;exact flt r c O;have ⟨ls,hls⟩:=Bq.1 G;have ⟨⟨E,hE⟩,_⟩:=h.bxs id ls hls;exact(BJ.1 hE).1;intro hT;unfold AOE at hT;have main:∀f es,(match x with|.st _ _ _=>False|_=>True)->GP x S=some (0,f,es)\/True->LY l (FQ f) es=true->qF S g (FQ f) es b->False:=by
  rintro f es _ _ Z ⟨i,md,e,hm,he,hw,hT⟩;have hsh:=iC Z i md e hm he hw;have off:∀l'∈e.cs,(∀r,l'.CA=some r->l.CA≠some r)/\∀id∈names l',Gb id l=false:=by intro l' hl';have h1:=hsh l' hl';simp[Td,Ff,List.any_eq_false,Bool.not_eq_true]at h1;refine⟨λr hr=>?_,h1.2⟩;have:=h1.1;rw[hr]at this;simpa using this
  rcases hT with ⟨id,rfl,G,rfl⟩|⟨l',r',hl',hr',L,hf'⟩;rcases hcases with Y|⟨r,_,c,O⟩|⟨q,B,H,he1⟩;exact h.bxR id G Y;exact h.F3 r id c G O;have:q=id:=h.G1 q id H G he1.symm;subst this;have:=(off (.bp q 0) (by simp)).2 q (by simp[names]);rw[ADZ B]at this;cases this;rcases hcases with Y|⟨r,hr,c,O⟩|⟨q,B,H,rfl⟩;exact h.Hw r' L b hf' Y;by_cases hrr:r'=r;subst hrr;exact(off l' hl').1 r' hr' hr;exact h.dis r' r L c hrr b hf' O;exact h.F3 r' q L H hf'
 split at hT;rename_i d f es hc;have Z:LY l (FQ f) es=true:=by cases x<;>first|(simp[GP]at hc;done)|(simpa[hc] using hsafe)
 exact main f es (by cases x<;>first|trivial|(simp[GP]at hc)) (.inr trivial) Z hT;rename_i hc;have key:∀y,x.wr=some y->(∃l r,S.one y=some l/\l.CA=some r/\g.fp r b)->(match S.one y with|some lt=>l.CA.isNone||decide (l.CA≠lt.CA)|none=>true)=true->False:=by
  rintro y hy ⟨lt,r,h1,h2,h3⟩ hh;rw[h1]at hh;simp[DJ,El,decide_eq_true_eq]at hh;have c:=AHP h h1 h2;rcases hcases with Y|⟨r1,J,I,X⟩|⟨q,B,H,rfl⟩;exact h.Hw r c b h3 Y;rcases hh with hh|hh;rw[hh]at J;cases J;have hne:r1≠r:=by rintro rfl;exact hh (J.trans h2.symm)
  exact h.dis r1 r I c hne b X h3;exact h.F3 r q c H h3
 have stc:∀n p v,x=.st n p v->False:=by
  rintro n p v rfl;simp[Tch]at hT;have ⟨lp,hlp,hT⟩:=hT;dsimp at hsafe;rw[hlp]at hsafe;rcases hT with ⟨id,off,rfl,G,rfl⟩|⟨r,hr,c,O⟩;dsimp at hsafe;rcases hcases with Y|⟨r1,J,I,X⟩|⟨q,B,H,he1⟩;exact h.bxR id G Y;exact h.F3 r1 id I G X;have:q=id:=h.G1 q id H G he1.symm;subst this;simp[B]at hsafe;cases lp with
  |ep r0 i j=>
   simp[AS.CA,AE]at hr;subst hr;simp[decide_eq_true_eq]at hsafe;rcases hcases with Y|⟨r1,J,I,X⟩|⟨q,B,H,rfl⟩;exact h.Hw _ c b O Y;have hne:r1≠r0:=by rintro rfl;exact hsafe J
   exact h.dis r1 r0 I c hne b X O;exact h.F3 _ q c H O
  |_=>first|(simp[AS.CA]at hr;done)|(simp at hsafe;done)
 by_cases hst:∃n p v,x=.st n p v;have ⟨n,p,v,hx⟩:=hst;exact stc n p v hx;clear stc;cases x<;>first|exact hst ⟨_,_,_,rfl⟩|(simp only[Tch,XOp.wr]at hT<;>first|exact hT|(simp only[hc,XOp.wr]at hsafe;exact key _ rfl hT hsafe)|(simp at hsafe))
end
section
variable{P:Program}{ops:Array Oper}{Q:Exit->Act->World->Prop}
def RU(P:Program)(ops:Array Oper)(Q:Exit->Act->World->Prop)(L:List (Nat×Nat)):Nat->Array Bool->Act->World->Prop
 |0,listed,a,w=>Bl .any ops listed=[]/\Q .normal a w|fuel+1,listed,a,w=>
  (Bl .any ops listed=[]->Q .normal a w) /\
  ∀j∈Bl .any ops listed,wpOp P ops Q j (λa' w'=>(∀t∈L,Tq ops ops.size j t.1=false->w'.heap[t.2]?=w.heap[t.2]?)/\RU P ops Q L fuel (listed.setIfInBounds j true) a' w') a w
theorem pU{L:List (Nat×Nat)}:∀(fuel:Nat) (listed:Array Bool) (a:Act) (w:World),RU P ops Q L fuel listed a w->wpAny P .any ops Q fuel listed a w|0,_,_,_,h=>h|fuel+1,_,_,_,h=>⟨h.1,λi hi=>wpOp_mono (λa' w' c=>pU fuel _ a' w' c.2) (h.2 i hi)⟩
def QX(ops:Array Oper)(listed:Array Bool):Prop:=∀(j:Nat) oj,ops[j]?=some oj->listed.getD j true=true->∀e∈oj.after,Eg .any e=true->listed.getD e.on false=true
theorem XH{listed:Array Bool}{j}(h:listed.getD j false=true):listed.getD j true=true:=by grind[Nat.lt_or_ge,Array.getElem?_eq_none]
theorem QX.set{listed}{i}(B:QX ops listed)(hi:i∈Bl .any ops listed):QX ops (listed.setIfInBounds i true):=by have ⟨I,oi,H,h⟩:=mem_ready.1 hi;intro j oj G q e E y;by_cases c:i=j;grind[getD_set_true];rw[getD_set_ne true c]at q;exact getD_set_true (B j oj G q e E y)
theorem sV{b}:∀(l:List Edge) (m:Nat),(l.foldl (λm e=>if Eg .any e=true then m |||2 ^ e.on else m) m).testBit b=true->m.testBit b=true\/∃e∈l,Eg .any e=true/\e.on=b
 | [],m,h=>.inl h|e::l,m,h=>by rw[Bu]at h;rcases sV l _ h with c|⟨j,c,q⟩;grind[List.mem_cons_self];grind[List.mem_cons_of_mem]
theorem sS{j b}(h:(ACs ops j).testBit b=true):∃o,ops[j]?=some o/\∃e∈o.after,Eg .any e=true/\e.on=b:=by unfold ACs at h;split at h;rename_i o y;rcases sV _ _ h with c|⟨e,c,q⟩;simp at c;grind;simp at h
theorem iA{listed}(j:QX ops listed):∀(n m:Nat),(∀b,m.testBit b=true->listed.getD b false=true)->∀b,(AOM ops n m).testBit b=true->listed.getD b false=true
 |0,m,h,b,c=>h b c|k+1,m,h,b,c=>by unfold AOM at c;split at c;rename_i B;refine iA j k _ (λb c=>?_) b c;rw[Nat.testBit_or,DJ]at c;rcases c with c|c;exact h b c;obtain⟨o,E,e,y,q,rfl⟩:=sS c;exact j k o E (XH (h k B)) e y q;exact iA j k m h b c
theorem AN7{listed}(y:QX ops listed){i}(hi:listed.getD i true=false) n j(h:∀oj,ops[j]?=some oj->∀e∈oj.after,Eg .any e=true->listed.getD e.on false=true):Tq ops n j i=false:=by rw[Bool.eq_false_iff];intro G;have:=iA y n (ACs ops j) (λb q=>by obtain⟨o,E,e,B,c,rfl⟩:=sS q;exact h o E e B c) i G;grind[XH]
theorem PE{L:List (Nat×Nat)}{i b:Nat}{oi:Oper}{v:Value}(hi:ops[i]?=some oi)(J:∀(j:Nat) (o:Oper) cs c,ops[j]?=some o->o.op≠.select cs c)
 (hQ:∀c a w,Q (.panic c) (a.put oi.dst v) w->Q (.panic c) a w) {ob:Option Obj} (rd:Bool) :
 ∀(fuel:Nat) (listed:Array Bool) (a:Act) (w:World),QX ops listed ->
  (∀j oj,ops[j]?=some oj->j≠i->listed.getD j true=false->(∀e∈oj.after,Eg .any e=true->e.on≠i)->oi.apart ops oj=true) ->
  i∈Bl .any ops listed->YieldsIf P ops (λw=>rd=true->w.heap[b]?=ob) oi v a->(rd=true->w.heap[b]?=ob) ->
  RU P ops Q (if rd=true then (i,b)::L else L) fuel (listed.setIfInBounds i true) (a.put oi.dst v) w->RU P ops Q L (fuel+1) listed a w:=by
 intro fuel;induction fuel with
 |zero=>intro listed a w X _ Y hy hS H;refine⟨λh=>(by rw[h]at Y;cases Y),λj Z=>?_⟩;by_cases q:j=i;subst q;exact hy.wpOp hi hS ⟨λ_ _ _=>rfl,H⟩;have:=ready_mono Z q;rw[H.1]at this;cases this
 |succ fuel ih=>
  intro listed a w X hfree Y hy hS H;have O:∀t∈L,t∈(if rd=true then (i,b)::L else L):=by intro t ht;split<;>simp[ht]
  refine⟨λh=>(by rw[h]at Y;cases Y),λj Z=>?_⟩;by_cases q:j=i;subst q;refine hy.wpOp hi hS ⟨λ_ _ _=>rfl,?_⟩;have mono:∀(f:Nat) (li:Array Bool) (a:Act) (w:World),RU P ops Q (if rd=true then (j,b)::L else L) f li a w->RU P ops Q L f li a w:=by
   intro f;induction f with
   |zero=>intro li a w h;exact h
   |succ f ihf=>intro li a w h;exact⟨h.1,λk hk=>wpOp_mono (λa' w' h'=>⟨λt ht=>h'.1 t (O t ht),ihf _ _ _ h'.2⟩) (h.2 k hk)⟩
  exact mono _ _ _ _ H;have h1:=H.2 j (ready_mono Z q);have ⟨G,oj,y,B⟩:=mem_ready.1 Z;have E:=(mem_ready.1 Y).1;have hnot:∀e∈oj.after,Eg .any e=true->e.on≠i:=λe he hb heq=>by have h1:=B e he hb;have h2:=XH h1;rw[heq,E]at h2;cases h2
  have hwait:Tq ops ops.size j i=false:=AN7 X E _ j λoj' I e he hb=>by rw[y]at I;cases I;exact B e he hb
  have h2:=wpOp_putIf y (hfree j oj y q G hnot) (λcs b=>J i oi cs b hi) (λcs b=>J j oj cs b y) hQ hy h1;have hfree':∀k ok,ops[k]?=some ok->k≠i->(listed.setIfInBounds j true).getD k true=false ->
   (∀e∈ok.after,Eg .any e=true->e.on≠i)->oi.apart ops ok=true:=λk ok hk hki hun hno=>by
   refine hfree k ok hk hki ?_ hno;by_cases hjk:j=k;subst hjk;exact G;rw[getD_set_ne true hjk]at hun;exact hun
  refine wpOp_mono (λa' w' h3=>⟨λt ht=>h3.2.1 t (O t ht),ih (listed.setIfInBounds j true) a' w' (X.set Z) hfree' (ready_mono Y (Ne.symm q)) h3.1 ?_ ?_⟩) h2;intro hrd;rw[h3.2.1 (i,b) (by simp[hrd]) hwait];exact hS hrd;rw[Array.setIfInBounds_comm _ _ q];exact h3.2.2
end
theorem Oper.SB.put{P}(h:Oper.SB P o a w K):Oper.SB P o a w (λa' w'=>(∃v,a'=a.put o.dst v)/\K a' w'):=by grind[Oper.SB]
section
variable{F:Fix}{S S' S1 S2:St}{g g' g1:Gh}{a a':Act}{w w':World}
theorem QB{a:Act}{dst:Option Tmp}{v}{s:Nat}(h:dst≠some s):(a.put dst v).tmps.getD s undef=a.tmps.getD s undef:=by
 cases dst with
 |none=>rfl|some d=>have c:d≠s:=λe=>h (e▸rfl);simp[Act.put,Array.getElem?_setIfInBounds_ne c]
theorem AZi{Rn}{x}{K}(h:OU x≠.eff)(c:opK Rn x S K):∃S',ev x S=some S'/\K S':=by rcases c with c|⟨d,f,es,S1,vs,sh,cs,outs,S2,e,_⟩;exact c;cases x<;>first|(simp[GP]at e;done)|exact absurd rfl h
theorem AZC{N s}{dst}{op}{x}{y}{P}(c:P8 P N dst op x=true)(e:U8 x=some s)(j:AVO op=some y):y=.tmp s:=by
 simp[P8,AD]at c;have ⟨_,c⟩:=c;have tm:∀{o:Operand} {t:Nat},CH o (.tmp t)=true->o=.tmp t:=by intro o t h;cases o<;>simp[CH]at h;rw[h]
 unfold U8 at e;grind[AVO]
theorem PL:∀{r:T4},Jc r=0->Qo r=[]
 |.nil,_=>rfl|.op _ _ _ _ _,h=>by simp[Jc]at h|.dr _ r,h=>by simp[Jc]at h;simp[Qo,PL h]|.nl _ r,h=>by simp[Jc]at h;simp[Qo,PL h]|.both a b,h=>by simp[Jc]at h;simp[Qo,PL (r:=a) (by omega),PL (r:=b) (by omega)]
theorem tl{x}:∀{sf:List Nat},LN x S sf=true->∀s∈sf,∃l,S.one (.tmp s)=some l/\Wr x S l=true
 | [],_,s,c=>by simp at c|t::ts,h,s,c=>by simp[LN,AD]at h;rcases Ae.1 c with rfl|c;grind;exact tl h.2 s c
def Fin(F0:Fix)(K:St->Prop)(ex:Exit)(a':Act)(w':World):Prop:=ex=.normal/\∃F' S' g',F0.Le F'/\Inv F' S' g' a' w'/\K S'
theorem AEt{P:Program}{ops:Array Oper}{Q:Exit->Act->World->Prop}{L:List (Nat×Nat)}{listed:Array Bool}{a:Act}{w:World}(c:Bl .any ops listed=[])(h:Q .normal a w):∀fuel,RU P ops Q L fuel listed a w|0=>⟨c,h⟩|_+1=>⟨λ_=>h,by rw[c];simp⟩
theorem QH{Rn}{F0}(hA:RX F0.A F0.P)(hRn:∀f vs sh cs outs,Rn f vs sh cs outs->Ct F0.A F0.P f vs sh cs outs){ops}(B:Region.noSelect ops=true){K} :
 ∀(r:T4) (listed:Array Bool) (Ls L:List (Nat×Nat)) (F:Fix) (S:St) (g:Gh) (a:Act) (w:World),F0.Le F->Inv F S g a w->(∀p∈OY ops r,Mt F0.A F0.P p.1 p.2)->QX ops listed ->
  (∀t∈L,∃s,(t.1,s)∈Ls/\MG (a.tmps.getD s undef)=some t.2)->runK Rn r S K ->
  (JU F0.P F0.N ops true r listed Ls=true->∀fuel,Jc r<=fuel->RU F0.P ops (Fin F0 K) L fuel listed a w) /\
  (JU F0.P F0.N ops false r listed Ls=true->∀fuel,Jc r<=fuel+1->∀j∈Qo r,j∈Bl .any ops listed ->
   wpOp F0.P ops (Fin F0 K) j (λa' w'=>(∀t∈L,Tq ops ops.size j t.1=false->w'.heap[t.2]?=w.heap[t.2]?)/\RU F0.P ops (Fin F0 K) L fuel (listed.setIfInBounds j true) a' w') a w)
 |.nil,listed,Ls,L,F,S,g,a,w,hLe,h,_,_,_,J=>by refine⟨λq fuel _=>AEt (by simpa[JU] using q) ⟨rfl,F,S,g,hLe,h,J⟩ fuel,λq=>by simp[JU]at q⟩
 |.dr ds r,listed,Ls,L,F,S,g,a,w,hLe,h,hm,G,hL,J=>
  QH hA hRn B r listed Ls L F (S.JT ds) g a w hLe (AKf h ds) hm G hL J
 |.nl ns r,listed,Ls,L,F,S,g,a,w,hLe,h,hm,G,hL,J=>by have ⟨g',hg⟩:=AKi h ns;exact QH hA hRn B r listed Ls L F (S.TR ns) g' a w hLe hg hm G hL J
 |.both r1 r2,listed,Ls,L,F,S,g,a,w,hLe,h,hm,G,hL,J=>by
  have ⟨hk1,hk2⟩:=J;have i1:=QH hA hRn B r1 listed Ls L F S g a w hLe h (λp hp=>hm p (by simp[OY,hp])) G hL hk1;have i2:=QH hA hRn B r2 listed Ls L F S g a w hLe h (λp hp=>hm p (by simp[OY,hp])) G hL hk2;constructor;intro q fuel hf;simp only[JU,Bool.not_true,Bool.false_or,AD,BE,List.isEmpty_eq_false_iff,B2,DT]at q;have ⟨⟨⟨hne,hcov⟩,ho1⟩,ho2⟩:=q;simp only[Jc]at hf;cases fuel with
  |zero=>exfalso;have e1:=PL (r:=r1) (by omega);have e2:=PL (r:=r2) (by omega);have ⟨j,hj⟩:=List.exists_mem_of_ne_nil _ hne;have:=hcov j hj;simp[e1,e2]at this
  |succ fuel=>refine⟨λh0=>absurd h0 hne,λj hj=>?_⟩;rcases Br.1 (hcov j hj) with hj1|hj1;exact i1.2 ho1 fuel (by omega) j hj1 hj;exact i2.2 ho2 fuel (by omega) j hj1 hj
  intro q fuel hf j hj hjr;simp only[JU,Bool.not_false,Bool.true_or,Bool.true_and,AD]at q;simp only[Jc]at hf;rcases Br.1 hj with hj1|hj1;exact i1.2 q.1 fuel (by omega) j hj1 hjr;exact i2.2 q.2 fuel (by omega) j hj1 hjr
 |.op i gd sf x r,listed,Ls,L,F,S,g,a,w,hLe,h,hm,G,hL,J=>by
  have ⟨hP,hFA,hN,_,_⟩:=hLe.P;have hA':RX F.A F.P:=by rw[hFA,hP];exact hA
  have hRn':∀f vs sh cs outs,Rn f vs sh cs outs->Ct F.A F.P f vs sh cs outs:=by rw[hFA,hP];exact hRn
  have main:∀top,JU F0.P F0.N ops top (.op i gd sf x r) listed Ls=true->∃o,ops[i]?=some o/\Ov ops o.guard gd=true/\P8 F.P F.N o.dst o.op x=true/\(∀p∈Em o.op x,Mt F.A F.P p.1 p.2)/\(∀t∈Ls,o.dst≠some t.2) /\
   (match OU x with
    |.pure=>top=true/\i∈Bl .any ops listed/\Region.free .any ops listed i=true/\JU F0.P F0.N ops true r (listed.setIfInBounds i true) Ls=true|.ld=>top=true/\i∈Bl .any ops listed/\Region.free .any ops listed i=true/\∃s,U8 x=some s/\o.dst≠some s/\JU F0.P F0.N ops true r (listed.setIfInBounds i true) ((i,s)::Ls)=true|.eff=>(top=true->i∈Bl .any ops listed/\∀j∈Bl .any ops listed,j=i)/\(∀t∈Ls,Tq ops ops.size i t.1=true\/t.2∈sf)/\JU F0.P F0.N ops true r (listed.setIfInBounds i true) Ls=true):=by
   intro top q;unfold JU at q;split at q;cases q;rename_i o ho;simp only[AD,B2,BE,beq_eq_false_iff_ne,ne_eq]at q;have ⟨⟨⟨h1,h2⟩,h3⟩,h4⟩:=q;refine⟨o,ho,h1,by rw[hP,hN];exact h2,by rw[hFA,hP];exact λp hp=>hm p (by simp[OY,ho,hp]),h3,?_⟩;cases e:OU x with
   |pure=>simp only[e,AD,DT]at h4;exact⟨h4.1.1.1,h4.1.1.2,h4.1.2,h4.2⟩
   |ld=>simp only[e,AD,DT]at h4;have ⟨⟨⟨k1,k2⟩,k3⟩,k4⟩:=h4;refine⟨k1,k2,k3,?_⟩;split at k4;rename_i s hs;simp only[AD,BE,beq_eq_false_iff_ne,ne_eq]at k4;exact⟨s,hs,k4.1,k4.2⟩;cases k4
   |eff=>simp only[e,AD,B2,DJ,BE,DT,beq_iff_eq]at h4;refine⟨λht=>?_,λt ht=>(h4.1.2 t ht).symm,h4.2⟩;rcases h4.1.1 with hh|hh;rw[ht]at hh;cases hh;exact hh
  have hmr:∀p∈OY ops r,Mt F0.A F0.P p.1 p.2:=λp hp=>hm p (by simp only[OY,Br];exact .inr hp);have ⟨b,hb,J⟩:=J;have effect:∀o,ops[i]?=some o->Ov ops o.guard gd=true->P8 F.P F.N o.dst o.op x=true->(∀p∈Em o.op x,Mt F.A F.P p.1 p.2)->(∀t∈Ls,o.dst≠some t.2)->(∀t∈Ls,Tq ops ops.size i t.1=true\/t.2∈sf) ->
   JU F0.P F0.N ops true r (listed.setIfInBounds i true) Ls=true->i∈Bl .any ops listed->∀fuel,Jc r<=fuel ->
   wpOp F0.P ops (Fin F0 K) i (λa' w'=>(∀t∈L,Tq ops ops.size i t.1=false->w'.heap[t.2]?=w.heap[t.2]?)/\RU F0.P ops (Fin F0 K) L fuel (listed.setIfInBounds i true) a' w') a w:=by
   intro o ho hg Z hmo X hw q I fuel hf;have hwant:=WN h hg hb;have hLn:∀v,∀t∈L,∃s,(t.1,s)∈Ls/\MG ((a.put o.dst v).tmps.getD s undef)=some t.2:=by intro v t ht;have ⟨s,h1,h2⟩:=hL t ht;exact⟨s,h1,by rw[QB (X _ h1)];exact h2⟩
   unfold wpOp;simp only[ho,hwant];rcases J with ⟨rfl,hsf,J⟩|⟨rfl,S',hs,J⟩;simp only[if_true];left;rw[<-hP];refine Oper.SB.wp ((ATf hA' hRn' h Z hmo J).put.mono ?_);rintro a' w' ⟨⟨v,rfl⟩,F',S',g',hLe',H,E,hfr⟩;rw[hP];refine⟨?_,(QH hA hRn B r (listed.setIfInBounds i true) Ls L F' S' g' _ w' (hLe.trans hLe') H hmr (G.set I) (hLn v) E).1 q fuel hf⟩;intro t ht hwt;have ⟨s,h1,h2⟩:=hL t ht;rcases hw _ h1 with hh|hh;rw[hwt]at hh;cases hh;have ⟨l,hl,hsl⟩:=tl hsf s hh;have ⟨q1,q2⟩:=AXR h hl hsl h2;exact hfr t.2 q1 q2;simp only[BP,if_false];have ⟨g',H⟩:=zi h Z hs;exact⟨λ_ _ _=>trivial,(QH hA hRn B r (listed.setIfInBounds i true) Ls L F S' g' _ w hLe H hmr (G.set I) (hLn _) J).1 q fuel hf⟩
  constructor;intro q fuel hf;have ⟨o,ho,hg,Z,hmo,X,e⟩:=main true q;simp only[Jc]at hf;obtain⟨fuel,rfl⟩:∃f,fuel=f+1:=⟨fuel-1,by omega⟩;have hwant:=WN h hg hb;have hLn:∀v,∀t∈L,∃s,(t.1,s)∈Ls/\MG ((a.put o.dst v).tmps.getD s undef)=some t.2:=by intro v t ht;have ⟨s,h1,h2⟩:=hL t ht;exact⟨s,h1,by rw[QB (X _ h1)];exact h2⟩
  have hQ:∀{v:Value} c (a:Act) w,Fin F0 K (.panic c) (a.put o.dst v) w->Fin F0 K (.panic c) a w:=λc a w hh=>by cases hh.1
  by_cases heff:OU x=.eff;rw[heff]at e;have ⟨h1,h2,h3⟩:=e;have ⟨I,hall⟩:=h1 rfl;refine⟨λh0=>(by rw[h0]at I;cases I),λj hj=>?_⟩;have:=hall j hj;subst this;exact effect o ho hg Z hmo X h2 h3 hj fuel (by omega);have hirf:i∈Bl .any ops listed/\Region.free .any ops listed i=true:=by
   cases E:OU x with
   |pure=>rw[E]at e;exact⟨e.2.1,e.2.2.1⟩|ld=>rw[E]at e;exact⟨e.2.1,e.2.2.1⟩|eff=>exact absurd E heff
  have ⟨I,hfree⟩:=hirf;rcases J with ⟨rfl,hsf,J⟩|⟨rfl,S',hs,J⟩;have ⟨S',hev,J⟩:=AZi heff J;have O:=ADk h Z hmo hev;cases E:OU x with
  |pure=>rw[E]at e;unfold Did at O;rw[E]at O;have ⟨v,g',hrun,H⟩:=O;refine PE (b:=0) (ob:=none) (v:=v) ho (Region.noSelect_spec B) hQ false fuel listed a w G (Region.free_spec ho hfree) I (.inl ⟨hwant,λw1 _=>by rw[<-hP];exact hrun w1⟩) (λhh=>by cases hh) ?_;exact(QH hA hRn B r _ Ls L F S' g' _ w hLe H hmr (G.set I) (hLn v) J).1 e.2.2.2 fuel (by omega)
  |ld=>
   rw[E]at e;unfold Did at O;rw[E]at O;have ⟨v,g',y,hy,hrun,H⟩:=O;have ⟨_,_,_,s,hs,hds,Y⟩:=e;have hys:=AZC Z hs hy;subst hys;have hev:a.eval (.tmp s)=a.tmps.getD s undef:=by simp[Act.eval]
   cases hblk:MG (a.tmps.getD s undef) with
   |none=>refine PE (b:=0) (ob:=none) (v:=v) ho (Region.noSelect_spec B) hQ false fuel listed a w G (Region.free_spec ho hfree) I (.inl ⟨hwant,λw1 _=>by rw[<-hP];exact hrun w1 (λb hb=>by rw[hev,hblk]at hb;cases hb)⟩) (λhh=>by cases hh) ?_;refine(QH hA hRn B r _ ((i,s)::Ls) L F S' g' _ w hLe H hmr (G.set I) ?_ J).1 Y fuel (by omega);intro t ht;have ⟨s',h1,h2⟩:=hLn v t ht;exact⟨s',by simp[h1],h2⟩
   |some b=>
    refine PE (b:=b) (ob:=w.heap[b]?) (v:=v) ho (Region.noSelect_spec B) hQ true fuel listed a w G (Region.free_spec ho hfree) I (.inl ⟨hwant,λw1 hw1=>by rw[<-hP];refine hrun w1 (λb' hb'=>?_);rw[hev,hblk]at hb';cases hb';exact hw1 rfl⟩) (λ_=>rfl) ?_;refine(QH hA hRn B r _ ((i,s)::Ls) ((i,b)::L) F S' g' _ w hLe H hmr (G.set I) ?_ J).1 Y fuel (by omega);intro t ht;rcases Ae.1 ht with rfl|ht;exact⟨s,by simp,by rw[QB hds];exact hblk⟩;have ⟨s',h1,h2⟩:=hLn v t ht;exact⟨s',by simp[h1],h2⟩
  |eff=>exact absurd E heff
  have ⟨g',H⟩:=zi h Z hs;have hrest:∃Ls',(∀t∈Ls,t∈Ls')/\JU F0.P F0.N ops true r (listed.setIfInBounds i true) Ls'=true:=by
   cases E:OU x with
   |pure=>rw[E]at e;exact⟨Ls,λ_ h=>h,e.2.2.2⟩|ld=>rw[E]at e;have ⟨_,_,_,s,_,_,Y⟩:=e;exact⟨_,λt ht=>List.mem_cons_of_mem _ ht,Y⟩|eff=>exact absurd E heff
  have ⟨Ls',hsub,Y⟩:=hrest;refine PE (b:=0) (ob:=none) (v:=undef) ho (Region.noSelect_spec B) hQ false fuel listed a w G (Region.free_spec ho hfree) I (.inr ⟨hwant,rfl⟩) (λhh=>by cases hh) ?_;refine(QH hA hRn B r _ Ls' L F S' g' _ w hLe H hmr (G.set I) ?_ J).1 Y fuel (by omega);intro t ht;have ⟨s',h1,h2⟩:=hLn undef t ht;exact⟨s',hsub _ h1,h2⟩;intro q fuel hf j hj hjr;have ⟨o,ho,hg,Z,hmo,X,e⟩:=main false q;simp only[Qo,EL]at hj;subst hj;simp only[Jc]at hf;cases E:OU x with
  |pure=>rw[E]at e;cases e.1
  |ld=>rw[E]at e;cases e.1
  |eff=>rw[E]at e;exact effect o ho hg Z hmo X e.2.1 e.2.2 hjr fuel (by omega)
end
section
variable{F:Fix}{S S':St}{g g':Gh}{a a':Act}{w w':World}
def Twin(a:Act)(w:World)(d p c e:Nat):Prop:=∃bb v0 blk off len cap,a.tmps.getD p undef=.pointer (some ⟨bb,0,none⟩)/\w.cell? ⟨bb,c,none⟩=some v0 /\
 a.tmps.getD d undef=.slice (some ⟨blk,off,none⟩) (len+1) cap/\w.cell? ⟨blk,off+len*e+c,none⟩=some v0
theorem Inv.see(h:Inv F S g a w){d p c e}(hT:Twin a w d p c e):Inv F (S.see d p c e) g a w:=by
 have ⟨bb,v0,blk,off,len,cap,t1,t2,t3,t4⟩:=hT;unfold St.see;split;case h_2=>exact h
 rename_i b e' xs O I;split;case h_2=>exact h
 rename_i e2 ys hc G;split;case isFalse=>exact h
 rename_i he;subst he;have H:a.tmps.getD p undef=.pointer (some ⟨g.β b,0,none⟩):=(HL (o:=.tmp p) h O (by simp[CH]) (λp O=>by simp[CK]at O)).1;rw[H]at t1;cases t1;have ⟨u,B,hO⟩:=h.C6 _ _ I;have hO:Own w (.sl e' xs) u (g.fp (.tmp d 0)):=hO;have Y:a.tmps.getD d undef=u:=by
  have q:=I;simp[St.at]at q;split at q;rename_i ent y;have B:(g.tv d)[0]?=some u:=B;rw[(h.tms d ent y).2.1]at t3 ⊢;have J:(g.tv d).headD undef=u:=by cases hv:g.tv d with|nil=>simp[hv]at B|cons x r=>simpa[hv] using B
  cases X:ent.sh with
  |agg=>rw[X]at t3;cases t3
  |tup ns=>rw[X]at t3;cases t3
  |T8 k n=>rw[X]at t3;cases t3
  |_=>exact J
  cases q
 rw[Y]at t3;subst t3;cases hO with
 |sc J=>exact J.elim|sl c0 f k1 k2 k3 k4 k5 k6 k7 k8 k9 Z=>
  have h1:=k6 _ _ _ G;rw[<-k1,Nat.add_sub_cancel]at h1 G;rw[k4.cell,h1]at t4;cases t4;have hr:g.rv (.cell b c)=some (c0 len c):=by have j:=hc;simp[St.at]at j;split at j;rename_i ls L;have ⟨⟨E,hE⟩,_⟩:=h.bxs b ls L;simp[World.cell?,hE]at t2;simpa[Gh.rv] using t2;cases j
  exact h.Aa3 hc hr (by simp) ⟨⟨_,I⟩,⟨f len c,λx H=>(Z x).2 (.inr ⟨len,c,_,G,H⟩),k7 _ _ _ G⟩,trivial⟩
theorem Z8{d}{v}(c:d<F.N)(h:a.tmps.size=F.N):(a.put (some d) v).tmps.getD d undef=v:=by simp[Act.put,DI,h,c]
theorem Zy{o:Operand}{t:Nat}(h:CH o (.tmp t)=true):o=.tmp t:=by cases o<;>simp[CH]at h;rw[h]
theorem AZD(h:Inv F S g a w){o:Oper}{d n p:Nat}(c:P8 F.P F.N o.dst o.op (.ld d (some n) (.tmp p))=true)(B:ev (.ld d (some n) (.tmp p)) S=some S') :
 ∃(b off:Nat) (vs:List Value) (g':Gh),a.tmps.getD p undef=.pointer (some ⟨b,off,none⟩)/\(∀(j:Nat) u,vs[j]?=some u->w.cell? ⟨b,off+j,none⟩=some u)/\vs.length=n /\
  (execOp a.eval o).run F.P w=.ok (.value (.agg vs.toArray)) w/\Inv F S' g' (a.put (some d) (.agg vs.toArray)) w/\o.dst=some d/\d<F.N:=by
 have ⟨dst,op,ty,pos,after,guard⟩:=o;simp[P8,AD]at c;obtain⟨E,c⟩:=c;obtain⟨rfl,X⟩:=DP (x:=.ld d (some n) (.tmp p)) E rfl;generalize hx:XOp.ld d (some n) (.tmp p)=x at c;split at c;all_goals first|(cases hx;done)|(cases c;done)|skip
 rename_i t y _ _ _;cases hx;simp[AD]at c;obtain⟨G,Y⟩:=c;obtain rfl:=Zy Y;simp[ev]at B;split at B;rename_i q hq;split at B;rename_i ls H;have ⟨b,o',vs,Z,L,h2,O,hc⟩:=Qs h (HL h hq Y (λp hp=>by simp[CK]at hp)).1 H;unfold Jn at G;split at G;rename_i dsc i hu hi;simp[AD,beq_iff_eq]at G;obtain⟨I,hk⟩:=G;obtain⟨fs,rfl⟩:∃fs,dsc=.struct fs:=by cases dsc<;>simp[SE]at I;exact⟨_,rfl⟩
 obtain⟨g',hg⟩:=h.Eo (e:=⟨.agg,ls⟩) (by simpa[shN] using B) X hc;have J:a.tmps.getD p undef=.pointer (some ⟨b,o',none⟩):=Z;refine⟨b,o',vs,g',J,O,by simpa[Dx] using L,?_,by simpa[mkV] using hg,rfl,X⟩;have hr:=aI (P:=F.P) (w:=w) hu hi (by simp[Dx]at L;omega) O;simp[execOp,Ao,Z,hr,Aq,A5];cases G;cases B;cases B
theorem AYl(h:Inv F S g a w){o:Oper}{s l:Nat}{zs:List T}{vs:List Value}(c:P8 F.P F.N o.dst o.op (.CF s 1 zs [(0,.tmp l)])=true)(hm:∀p∈Em o.op (.CF s 1 zs [(0,.tmp l)]),Mt F.A F.P p.1 p.2)
 (j:ev (.CF s 1 zs [(0,.tmp l)]) S=some S') (hl:a.tmps.getD l undef=.agg vs.toArray) (H:vs.length=zs.length) :
 ∃el g',(execOp a.eval o).run F.P w=.ok (.value (.slice (some ⟨w.heap.size,0,none⟩) 1 1)) (World.push w (.cells vs.toArray el (0,0))) /\
  Inv F S' g' (a.put (some s) (.slice (some ⟨w.heap.size,0,none⟩) 1 1)) (World.push w (.cells vs.toArray el (0,0)))/\o.dst=some s/\s<F.N:=by
 obtain⟨n,v,w',g',X,E,h3,_⟩:∃n v w' g',(execOp a.eval o).run F.P w=.ok n w'/\(n=.value v\/(n=.skip/\v=undef))/\Inv F S' g' (a.put o.dst v) w'/\∀b,b<w.heap.size->¬Tch S g (.CF s 1 zs [(0,.tmp l)]) b->w'.heap[b]?=w.heap[b]?:=ADk h c hm j;have hlim:1*zs.length<=16777216:=by simp only[ev]at j;split at j;assumption;cases j
 obtain⟨dst,op,ty,pos,after,guard⟩:=o;simp[P8,AD]at c;obtain⟨G,c⟩:=c;obtain⟨rfl,hd⟩:=DP (x:=.CF s 1 zs [(0,.tmp l)]) G rfl;generalize Z:XOp.CF s 1 zs [(0,.tmp l)]=x at c;split at c;all_goals first|(cases Z;done)|(cases c;done)|skip
 rename_i t n0 ps _ _ _ _;cases Z;simp[AD,beq_iff_eq]at c;obtain⟨⟨⟨rfl,he⟩,L⟩,q⟩:=c;have I:ps=#[(0,.tmp l)]:=by
  rcases ps with ⟨ps⟩
  match ps,q with
  | [],q=>simp[O1]at q| [(i,o)],q=>simp only[O1,AD,beq_iff_eq]at q;obtain⟨⟨rfl,ho⟩,_⟩:=q;rw[Zy ho]
  |_::_::_,q=>simp[O1]at q
 subst I;split at L;rename_i el hu;obtain⟨i,z,hi,O,B,hzsz,_⟩:=aG (w:=w) L;have e:(madeCells z.cells (1*i.size)).size=zs.length:=by simp[madeCells,B]
 have hr:=oK (P:=F.P) (w:=w) (n:=1) (parts:=#[(0,.agg vs.toArray)]) (cells':=vs.toArray) hu hi O (by rw[B];exact hlim) (by have J:(Value.agg vs.toArray).cells=vs.toArray:=rfl;have Y:=TD vs (0*i.size) 0 (madeCells z.cells (1*i.size));generalize madeCells z.cells (1*i.size)=C at e Y ⊢;simp only[Instr.fill,J,A7];rw[Aa (by simp[B,H,e]),<-Ke,Jw];congr 1;apply B1.1;refine Y.trans ?_;rw[Lu _ _ _ (by simp[e,H])];simp[e,H]);have y:(execOp a.eval ⟨some s,.buildSlice t 1 #[(0,.tmp l)],ty,pos,after,guard⟩).run F.P w=.ok (.value (.slice (some ⟨w.heap.size,0,none⟩) 1 1)) (World.push w (.cells vs.toArray el (0,0))):=by have:a.eval (.tmp l)=.agg vs.toArray:=hl;simp[execOp,Ao,DB,AJ,Bb,this,hr,Aq,A5]
 rw[y]at X;cases X;rcases E with E|⟨E,_⟩;cases E;exact⟨el,g',y,h3,rfl,hd⟩;cases E;cases L
theorem AV5(h:Inv F S g a w){o:Oper}{r e m s:Nat}{fl:Bool}{news:List Value}{blk cap:Nat}(c:P8 F.P F.N o.dst o.op (.app r e fl (.tmp m) (.tmp s))=true)(J:ev (.app r e fl (.tmp m) (.tmp s)) S=some S')
 (hs:a.tmps.getD s undef=.slice (some ⟨blk,0,none⟩) 1 cap) (hr:∀(j:Nat) v,news[j]?=some v->w.cell? ⟨blk,j,none⟩=some v) (hl:news.length=e) :
 ∃Y w' g' len,(execOp a.eval o).run F.P w=.ok (.value Y) w'/\Inv F S' g' (a.put (some r) Y) w'/\(∀b,b<w.heap.size->(∀l r,S.one (.tmp m)=some l->l.CA=some r->¬g.fp r b)->w'.heap[b]?=w.heap[b]?) /\
  gz Y w' len 1 e news/\o.dst=some r/\r<F.N:=by
 obtain⟨dst,op,ty,pos,after,guard⟩:=o;simp[P8,AD]at c;obtain⟨G,c⟩:=c;obtain⟨rfl,hd⟩:=DP (x:=.app r e fl (.tmp m) (.tmp s)) G rfl;generalize hx:XOp.app r e fl (.tmp m) (.tmp s)=x at c;split at c;all_goals first|(cases hx;done)|(cases c;done)|skip
 cases hx;split at c;rename_i y z t u e1 e2;obtain rfl:=B1.1 e1;obtain rfl:=B1.1 e2;simp[AD]at c;obtain⟨⟨⟨⟨Z,h2⟩,h3⟩,I⟩,h5⟩:=c;obtain rfl:=Zy Z;obtain rfl:=Zy h2;split at I;rename_i el hu;have h6:∃dd,F.P.underlying u=some dd/\(dd=.string\/∃e',dd=.slice e'):=by split at h5;rename_i el' q;exact⟨_,q,.inr ⟨_,rfl⟩⟩;rename_i q;exact⟨_,q,.inl rfl⟩;cases h5
 obtain⟨dd,B,E⟩:=h6;obtain⟨v,w',g',H,hg,L,hA⟩:=y7 (ty:=ty) h hd J Z h2 (λp O=>by simp[CK]at O) (λp O=>by simp[CK]at O) h3 hu I B E;have X:a.eval (.tmp s)=.slice (some ⟨blk,0,none⟩) 1 cap:=hs;have hcell:∀w1:World,(∀(j:Nat) v,news[j]?=some v->w1.cell? ⟨blk,j,none⟩=some v)->∀(j:Nat) v,news[j]?=some v->w1.cell? ((⟨blk,0,none⟩:Addr).add j)=some v:=by intro w1 h j v hj;rw[HV,A1];exact h j v hj
 obtain⟨len,hE⟩:=hA 1 news (by rw[X];exact⟨λw'=>by simp[Bd],run_firstCells_some (P:=F.P) w e 1 ⟨blk,0,none⟩ _ cap news (by omega) (hcell w hr),run_firstCells_some (P:=F.P) w.drew e 1 ⟨blk,0,none⟩ _ cap news (by omega) (hcell w.drew hr)⟩) (by omega);exact⟨v,w',g',len,by simp[execOp,resolve,invoke,builtin,Ao,A5,Aq,DB,AJ,Bb,H],hg,L,hE,rfl,hd⟩;cases I;cases c
theorem AYd{o:Oper}{d r:Nat}(c:P8 F.P F.N o.dst o.op (.as d (.tmp r))=true):o.dst=some d/\d<F.N/\∀w:World,(execOp a.eval o).run F.P w=.ok (.value (a.tmps.getD r undef)) w:=by
 have ⟨dst,op,ty,pos,after,guard⟩:=o;simp[P8,AD]at c;obtain⟨e,c⟩:=c;obtain⟨rfl,j⟩:=DP (x:=.as d (.tmp r)) e rfl;generalize h:XOp.as d (.tmp r)=x at c;split at c;all_goals first|(cases h;done)|(cases c;done)|skip
 cases h;obtain rfl:=Zy c;exact⟨rfl,j,λw=>rfl⟩
theorem VI{Rn:Rel}{x:XOp}{xs:List (Option (Nat×Bool)×XOp)}{K:St->Prop}(q:GP x S=none)(h:dF Rn ((none,x)::xs) S K):∃S',ev x S=some S'/\dF Rn xs S' K:=by have ⟨b,e,c⟩:=h;simp[wanted,AE]at e;subst e;rcases c with ⟨_,c⟩|⟨e,_⟩;rcases c with c|⟨d,f,es,S1,vs,sh,cs,outs,S2,j,_⟩;exact c;rw[q]at j;cases j;cases e
theorem SV(h:Inv F S g a w){ops:Array Oper}{o:Oper}{os:List Oper}{Q:Exit->Act->World->Prop}{v:Value}(c:Ov ops o.guard none=true)(j:(execOp a.eval o).run F.P w=.ok (.value v) w')
 (e:wpList F.P ops Q os (a.put o.dst v) w'):wpList F.P ops Q (o::os) a w:=by have q:=WN h c (b:=true) rfl;simp[wpList,q,if_true];left;refine Oper.SB.wp ?_;rw[Oper.SB,j];exact e
theorem AXD{Rn:Rel}(h:Inv F S g a w){ops:Array Oper}{os:List Oper}{xa xb:List (Option (Nat×Bool)×XOp)}{d p c e:Nat}{K:St->Prop}(G:AHH d p c e xa xb=true)(y:N9 F.P F.N ops os (xa++xb)=true)
 (O:∀q∈NQ os (xa++xb),Mt F.A F.P q.1 q.2) (B:dF Rn xa S λS=>(∃id,S.one (.tmp p)=some (.bp id 0)/\(get S.bx id).isSome=true)/\dF Rn xb S K) :
 wpList F.P ops (λex a' w'=>ex=.normal/\∃S' g',Inv F S' g' a' w'/\Twin a' w' d p c e/\K S') os a w:=by
 unfold AHH at G;split at G;case h_2=>cases G
 next m d0 l n p' s zs l' r e' fl m' s' d' r'=>simp[AD,beq_iff_eq,decide_eq_true_eq,Ae,List.not_mem_nil,or_false,not_or]at G;have ⟨⟨⟨⟨⟨⟨⟨⟨⟨⟨x1,x2⟩,x3⟩,x4⟩,x5⟩,x6⟩,x7⟩,x8⟩,hz⟩,hc⟩,p1,p2,p3,p4,p5⟩:=G;obtain rfl:=x1.symm;obtain rfl:=x2.symm;obtain rfl:=x3.symm;obtain rfl:=x4.symm;obtain rfl:=x5.symm;obtain rfl:=x6.symm;obtain rfl:=x7.symm;obtain rfl:=x8.symm;match os,y,O with
 | [o1,o2,o3,o4,o5],y,O=>
  simp only[A8,Az,N9,AD]at y;simp only[A8,Az,NQ,Br]at O;have ⟨⟨q1,k1⟩,⟨q2,k2⟩,⟨q3,k3⟩,⟨q4,k4⟩,⟨q5,k5⟩,_⟩:=y;have ⟨S1,e1,B⟩:=VI rfl B;have ⟨S2,e2,B⟩:=VI rfl B;have ⟨S3,e3,B⟩:=VI rfl B;have ⟨⟨id,hid,hbx⟩,B⟩:=B;have ⟨S4,e4,B⟩:=VI rfl B;have ⟨S5,e5,B⟩:=VI rfl B;have ⟨v1,g1,r1,i1⟩:∃v g',(∀w1,(execOp a.eval o1).run F.P w1=.ok (.value v) w1)/\Inv F S1 g' (a.put o1.dst v) w:=ADk h k1 (λq hq=>O q (.inl hq)) e1;refine SV h q1 (r1 w) ?_;generalize ha1:a.put o1.dst v1=a1 at i1;have ⟨b,off,vs,g2,t1,t2,t3,r2,i2,d2,n2⟩:=AZD i1 k2 e2;refine SV i1 q2 r2 ?_;rw[d2];have hl2:(a1.put (some l) (.agg vs.toArray)).tmps.getD l undef=.agg vs.toArray:=Z8 n2 i1.tsz;have hp2:(a1.put (some l) (.agg vs.toArray)).tmps.getD p undef=.pointer (some ⟨b,off,none⟩):=by rw[QB (λg=>p2 (Option.some.inj g).symm)];exact t1
  generalize ha2:a1.put (some l) (.agg vs.toArray)=a2 at i2 hl2 hp2;have ⟨el,I,r3,H,d3,n3⟩:=AYl i2 k3 (λq hq=>O q (.inr (.inr (.inl hq)))) e3 hl2 (by omega);refine SV i2 q3 r3 ?_;rw[d3];have hs3:=Z8 (v:=.slice (some ⟨w.heap.size,0,none⟩) 1 1) n3 i2.tsz;have J:(a2.put (some s) (.slice (some ⟨w.heap.size,0,none⟩) 1 1)).tmps.getD p undef=.pointer (some ⟨b,off,none⟩):=by rw[QB (λg=>p3 (Option.some.inj g).symm)];exact hp2
  generalize ha3:a2.put (some s) (.slice (some ⟨w.heap.size,0,none⟩) 1 1)=a3 at H hs3 J;generalize L:World.push w (.cells vs.toArray el (0,0))=w3 at H;have hcell3:∀(j:Nat) v,vs[j]?=some v->w3.cell? ⟨w.heap.size,j,none⟩=some v:=by intro j v hj;rw[<-L];have:F4 (World.push w (.cells vs.toArray el (0,0))) w.heap.size vs.toArray el 1:=.of MW;rw[this.cell];simpa using hj
  have ⟨v4,w4,g4,len,r4,i4,f4,hE,d4,n4⟩:=AV5 H k4 e4 hs3 hcell3 (by omega);refine SV H q4 r4 ?_;rw[d4];have hr4:=Z8 (v:=v4) n4 H.tsz;have hp4:(a3.put (some r) v4).tmps.getD p undef=.pointer (some ⟨b,off,none⟩):=by rw[QB (λg=>p4 (Option.some.inj g).symm)];exact J
  generalize ha4:a3.put (some r) v4=a4 at i4 hr4 hp4;have ⟨v5,g5,r5,i5⟩:∃v g',(∀w1,(execOp a4.eval o5).run F.P w1=.ok (.value v) w1)/\Inv F S5 g' (a4.put o5.dst v) w4:=ADk i4 k5 (λq hq=>O q (by simp[hq])) e5;refine SV i4 q5 (r5 w4) ?_;refine⟨rfl,S5,g5,i5,?_,B⟩;have X:a3.tmps.getD p undef=.pointer (some ⟨I.β id,0,none⟩):=(HL (o:=.tmp p) H hid (by simp[CH]) (λp G=>by simp[CK]at G)).1;rw[J]at X;cases X;have hvc:∃v0,vs[c]?=some v0:=⟨vs[c]'(by omega),by simp⟩;have ⟨v0,hv0⟩:=hvc;have E:=t2 c v0 hv0;rw[A1]at E;have hblt:I.β id<w.heap.size:=by simp[World.cell?]at E;split at E<;>first|(cases E;done)|(next hh=>exact(BJ.1 hh).1)|skip
  have Y:w3.heap[I.β id]?=w.heap[I.β id]?:=by rw[<-L];exact Fe hblt
  have Z:w4.heap[I.β id]?=w3.heap[I.β id]?:=by refine f4 _ ?_ λlf rt hlf hrt=>?_;rw[<-L];simp[World.push];omega;have ⟨hleaf,_⟩:=HL (o:=.tmp m) H hlf (by simp[CH]) (λp G=>by simp[CK]at G);exact H.F3 rt id (hleaf.alive hrt) hbx
  have ⟨blk,of4,cap,hv4,hc4⟩:=hE;have ⟨d5,n5,r6⟩:=AYd (a:=a4) k5;have h5:v5=v4:=by have:=(r5 w4).symm.trans (r6 w4);rw[hr4]at this;cases this;rfl
  subst h5;refine⟨I.β id,v0,blk,of4,len,cap,?_,?_,?_,hc4 c v0 hv0⟩;rw[d5,QB (λg=>p5 (Option.some.inj g).symm)];exact hp4;rw[KA Z,KA Y];exact E;rw[d5,Z8 n5 i4.tsz];exact hv4
 | [],y,_ | [_],y,_ | [_,_],y,_ | [_,_,_],y,_ | [_,_,_,_],y,_|_::_::_::_::_::_::_,y,_=>simp[N9]at y
end
def Ex.exit:Ex->Exit|.n=>.normal|.x id=>.exit id|.r=>.ret
def End(F0:Fix)(Q:Ex->St->Prop)(ex:Exit)(a:Act)(w:World):Prop:=∃e F' S' g',ex=Ex.exit e/\F0.Le F'/\Inv F' S' g' a w/\Q e S'
theorem E2{Rn}{F0}(hA:RX F0.A F0.P)(hRn:∀f vs sh cs outs,Rn f vs sh cs outs->Ct F0.A F0.P f vs sh cs outs) :
 ∀(x:PY) (c:Code) (F:Fix) (S:St) (g:Gh) (a:Act) (w:World) (Q:Ex->St->Prop),F0.Le F->Inv F S g a w->codeOk F0.P F0.N c x=true->(∀p∈E1 c x,Mt F0.A F0.P p.1 p.2)->wp Rn x S Q ->
  c.wp F0.P (End F0 Q) a w
 |.skip,c,F,S,g,a,w,Q,hL,h,y,G,E=>by cases c<;>simp[codeOk]at y;exact wp_skip ⟨.n,F,S,g,rfl,hL,h,E⟩
 |.region xs FZ,c,F,S,g,a,w,Q,hL,h,y,G,E=>by cases c<;>simp[codeOk,AD,BE,BP]at y;obtain⟨rfl,y⟩:=y;refine wp_mono (wp_region_list (ng hA hRn xs _ F S g a w hL h y G E)) ?_;rintro e a' w' ⟨rfl,F',S',g',hL',I,ks,B⟩;exact⟨.n,F',_,g',rfl,hL',I.clean ks,B⟩
 |.W9 r FZ,c,F,S,g,a,w,Q,hL,h,y,G,E=>by
  cases c<;>simp[codeOk,AD,decide_eq_true_eq,BP]at y;rename_i id ops d;obtain⟨⟨⟨⟨rfl,hmo⟩,Y⟩,O⟩,y⟩:=y;have y:=NW _ _ _ _ y;rw[AWC]at y;have hcl:QX ops (Array.replicate ops.size false):=by intro j oj hj hl;have:j<ops.size:=(BJ.1 hj).1;simp[this]at hl
  refine wp_mono (wp_region_any hmo (pU _ _ _ _ ((QH hA hRn Y r _ [] [] F S g a _ hL (h.drawn _) G hcl (λt Z=>by cases Z) E).1 y _ O))) ?_;rintro e a' w' ⟨rfl,F',S',g',hL',I,ks,B⟩;exact⟨.n,F',_,g',rfl,hL',I.clean ks,B⟩
 |.seq p q,c,F,S,g,a,w,Q,hL,h,y,G,E=>by
  cases c<;>simp[codeOk,AD,BP]at y;refine wp_seq (wp_mono (E2 hA hRn p _ F S g a w _ hL h y.1 (λp H=>G p (by simp[E1,H])) E) ?_);rintro e a' w' ⟨L,F',S',g',rfl,hL',I,B⟩;cases L with
  |n=>exact E2 hA hRn q _ F' S' g' a' w' _ hL' I y.2 (λp H=>G p (by simp[E1,H])) B|x id=>exact⟨.x id,F',S',g',rfl,hL',I,B⟩|r=>exact⟨.r,F',S',g',rfl,hL',I,B⟩
 |.cond c' kt ke t e,c,F,S,g,a,w,Q,hL,h,y,G,E=>by
  cases c with
  |cond co tc ec=>
   cases co with
   |tmp s=>
    simp[codeOk,AD,beq_iff_eq]at y;obtain⟨⟨rfl,Z⟩,he⟩:=y;have ⟨b,hb,ks,E⟩:=E;have hsc:Sc (.bool b) (a.eval (.tmp s)):=Sd (o:=.tmp s) h hb (by simp[CH]) (λp H=>by simp[CK]at H);refine wp_cond (t:=b) hsc ?_;cases b with
    |true=>simp[if_true]at E ⊢;exact E2 hA hRn t _ F _ g a w _ hL (h.clean ks) Z (λp H=>G p (by simp[E1,H])) E|false=>simp[BP,if_false]at E ⊢;exact E2 hA hRn e _ F _ g a w _ hL (h.clean ks) he (λp H=>G p (by simp[E1,H])) E
   |_=>simp[codeOk]at y
  |_=>simp[codeOk]at y
 |.block id b,c,F,S,g,a,w,Q,hL,h,y,G,E=>by
  cases c<;>simp[codeOk,AD,beq_iff_eq,BP]at y;obtain⟨rfl,y⟩:=y;refine wp_block (wp_mono (E2 hA hRn b _ F S g a w _ hL h y (λp H=>G p (by simpa[E1] using H)) E) ?_);rintro e a' w' ⟨L,F',S',g',rfl,hL',I,B⟩;cases L with
  |n=>exact⟨.n,F',S',g',rfl,hL',I,B⟩|x i=>simp[Ex.exit,Exit.inBlock];dsimp at B;split;rename_i hi;rw[AY hi]at B;exact⟨.n,F',S',g',rfl,hL',I,B⟩;next hi=>rw[Aa hi]at B;exact⟨.x i,F',S',g',rfl,hL',I,B⟩
  |r=>exact⟨.r,F',S',g',rfl,hL',I,B⟩
 |.loop b,c,F,S,g,a,w,Q,hL,h,y,G,E=>by
  cases c<;>simp[codeOk,BP]at y;obtain⟨n,E⟩:=E;refine wp_loop_rounds n ?_;induction n generalizing F S g a w with
  |zero=>exact E.elim|succ n ih=>
   rw[rounds_succ];refine wp_mono (E2 hA hRn b _ F S g a w _ hL h y (λp H=>G p (by simpa[E1] using H)) E) ?_;rintro e a' w' ⟨L,F',S',g',rfl,hL',I,B⟩;cases L with
   |n=>exact ih F' S' g' a' w' hL' I B|x id=>exact⟨.x id,F',S',g',rfl,hL',I,B⟩|r=>exact⟨.r,F',S',g',rfl,hL',I,B⟩
 |.exit id,c,F,S,g,a,w,Q,hL,h,y,G,E=>by cases c<;>simp[codeOk,beq_iff_eq,BP]at y;subst y;exact wp_exit ⟨.x _,F,S,g,rfl,hL,h,E⟩
 |.ret,c,F,S,g,a,w,Q,hL,h,y,G,E=>by cases c<;>simp[codeOk]at y;exact wp_ret ⟨.r,F,S,g,rfl,hL,h,E⟩
 |.scope b,c,F,S,g,a,w,Q,hL,h,y,G,E=>by
  cases c with
  |scope c=>simp[codeOk]at y;refine wp_scope_straight (wp_mono (E2 hA hRn b _ F S g a w _ hL h y (λp H=>G p (by simpa[E1] using H)) E) ?_);rintro e a' w' ⟨L,F',S',g',rfl,hL',I,B⟩;cases L<;>exact⟨_,F',S',g',rfl,hL',I,B⟩
  |cond co tc ec=>
   cases co with
   |const v=>
    cases v with
    |bool t=>
     cases t with
     |true=>simp[codeOk]at y;exact wp_cond (t:=true) rfl (E2 hA hRn b _ F S g a w _ hL h y (λp H=>G p (by simpa[E1] using H)) E)
     |false=>simp[codeOk]at y;exact wp_cond (t:=false) rfl (E2 hA hRn b _ F S g a w _ hL h y (λp H=>G p (by simpa[E1] using H)) E)
    |_=>simp[codeOk]at y
   |_=>simp[codeOk]at y
  |_=>simp[codeOk]at y
 |.or p q,c,F,S,g,a,w,Q,hL,h,y,G,E=>by
  have J:codeOk F0.P F0.N c p=true/\codeOk F0.P F0.N c q=true:=by
   cases c<;>first|(simpa[codeOk] using y)|skip
   all_goals (next co _ _=>cases co<;>first|(simpa[codeOk] using y)|skip)
   all_goals (next v=>cases v<;>first|(simpa[codeOk] using y)|skip)
   all_goals (next t=>cases t<;>simpa[codeOk] using y)
  have X:∀x,x∈E1 c p\/x∈E1 c q->Mt F0.A F0.P x.1 x.2:=by
   intro x hx;refine G x ?_;have:E1 c (.or p q)=E1 c p++E1 c q:=by
    cases c<;>first|rfl|skip
    all_goals (next co _ _=>cases co<;>first|rfl|skip)
    all_goals (next v=>cases v<;>first|rfl|skip)
    all_goals (next t=>cases t<;>rfl)
   rw[this];exact Br.2 hx
  rcases E with E|E;exact E2 hA hRn p c F S g a w Q hL h J.1 (λx hx=>X x (.inl hx)) E;exact E2 hA hRn q c F S g a w Q hL h J.2 (λx hx=>X x (.inr hx)) E
 |.dead,c,F,S,g,a,w,Q,hL,h,y,G,E=>E.elim|.VM xa xb FZ d p c e,cd,F,S,g,a,w,Q,hL,h,y,G,E=>by cases cd<;>simp[codeOk,AD,BE,BP]at y;obtain⟨⟨rfl,y⟩,H⟩:=y;have ⟨hP,hFA,hN,_,_⟩:=hL.P;rw[<-hP,<-hN]at y;rw[<-hP,<-hFA]at G;have:=AXD h H y G E;rw[hP]at this;refine wp_mono (wp_region_list this) ?_;rintro _ a' w' ⟨rfl,S',g',I,Z,ks,B⟩;exact⟨.n,F,_,g',rfl,hL,(I.see Z).clean ks,B⟩
end Lv
