/- The light machine is right about the program's code. -/
import Derived.Test.YtcmjfplpdjflnaaGreatLvBc
import Derived.Laws.AppendOwn
import Derived.IntWalk
import Derived.MapKept
import Derived.WideLaws
set_option linter.unusedVariables false
set_option linter.unusedSimpArgs false
set_option linter.unusedSectionVars false
open Array renaming getElem?_eq_getElem->G0,getElem?_eq_some_iff->A1,getElem?_toList->DT,length_toList->Bf,toList_inj->B2
open Bool renaming and_eq_true->AF,false_eq_true->BM
open Go.Builtin renaming append_->Ba,copy_->Ce,firstCells->BN,lenOf->BZ,nextslicecap->Cg,zeroCells->Ay
open List.cons renaming injEq->Cc
open List renaming drop_eq_nil_of_le->A5,getElem?_append_left->BD,getElem?_append_right->A7,getElem?_cons_succ->CA,getElem?_cons_zero->AM,getElem?_eq_getElem->AW,getElem?_eq_none->DU,getElem?_eq_some_iff->AP,getElem?_of_mem->Bh,getElem?_toArray->BS,length_cons->AH,length_nil->AN,map_cons->AJ,map_nil->BY,map_toArray->DJ,mem_append->CO,mem_map->D2,mem_of_getElem?->Ap,size_toArray->A3,take_of_length_le->BU
open Nat renaming add_mul->BX,add_zero->C3,div_add_mod->GC,div_lt_iff_lt_mul->Cp,eq_zero_or_pos->JQ,le_refl->Ad,lt_of_lt_of_le->BR,min_eq_left->Dp,mod_lt->ER,mul_comm->F4,mul_le_mul_right->Aj,mul_one->J4,ne_of_gt->JV,one_mul->DY,zero_add->Au
open Option renaming bind_some->KM,isNone_iff_eq_none->E4,map_eq_some_iff->AO,map_none->H3,map_some->Ar
open Option.some renaming injEq->AD
open Prod.mk renaming injEq->A0
open Go.Result renaming andThen->Ao
open Go.Sem renaming run_bind->Ak,run_pure->Az
namespace Lv
open Go
section
variable{P:Program}{w:World}
structure O0(P:Program)(w:World)(size:Nat)(x:Value)(n:Nat)(news:List Value):Prop where
 len:∀w',(BZ x).run P w'=.ok n w'
 first:(BN size n x).run P w=.ok news.toArray w
 drew:(BN size n x).run P w.drew=.ok news.toArray w.drew
theorem xH{t u ty el:TypeId}{i:TypeInfo}{d:TypeDesc}{x:Value}{n:Nat}{news:List Value}{b o sLen sCap:Nat}{cur:Array Value}{E:TypeId}(O:P.underlying t=some (.slice el))(hi:P.info? el=some i)
 (Q:P.underlying u=some d) (I:d=.string\/∃q,d=.slice q) (G:O0 P w i.size x n news) (hroom:sLen+n<=sCap) {e:Nat} (J:FM w b cur E e) (c:o+sLen*i.size+news.length<=cur.size) (H:∀v∈news,v.oneCell'=true) :
 (Ba #[t,u] ty #[.slice (some ⟨b,o,none⟩) sLen sCap,x]).run P w =
  .ok (.slice (some ⟨b,o,none⟩) (sLen+n) sCap) (w.setRow b (cur.toList.take (o+sLen*i.size)++news++cur.toList.drop (o+sLen*i.size+news.length)).toArray):=by
 have B:=G.len w;have y:=G.first
 have h:=FX (P:=P) J c H;have j:=G9 (P:=P) (w:=w) hi;unfold Ba;simp only[A3,AH,AN,Au,Nat.reduceAdd,BS,AM,CA];generalize BZ=L at B ⊢;generalize BN=F at y ⊢;rcases I with rfl|⟨q,rfl⟩<;>simp[run_underlying O,run_underlying Q,j,B,y,hroom,Gz,h,go_sem]
def Gf(w:World)(E:TypeId)(cells:Array Value):World:=w.drew.alloc (.cells cells E)
theorem xG{t u ty el:TypeId}{i:TypeInfo}{z:Value}{d:TypeDesc}{x:Value}{n:Nat}{news olds:List Value}{ad:Option Addr}{sLen sCap:Nat}(J:P.underlying t=some (.slice el))(hi:P.info? el=some i)(Q:i.zero=some z)
 (O:P.underlying u=some d) (H:d=.string\/∃q,d=.slice q) (G:O0 P w i.size x n news) (I:O0 P w i.size (.slice ad sLen sCap) sLen olds) (hroom:sCap<sLen+n) (h:0<i.bytes) (B:Cg (sLen+n) sCap*i.bytes<=281474976710656) :
 (Ba #[t,u] ty #[.slice ad sLen sCap,x]).run P w =
  .ok (.slice (some ⟨w.heap.size,0,none⟩) (sLen+n) (grownCap w (sLen+n) sCap el)) (Gf w el (olds.toArray++news.toArray++Ay z.cells (grownCap w (sLen+n) sCap el-(sLen+n)))):=by
 have E:=G.len w;have y:=G.drew;have c:=I.drew;have j:=G9 (P:=P) (w:=w) hi;have hroom':¬(sLen+n<=sCap):=by omega
 have hfit':¬(281474976710656<Cg (sLen+n) sCap*i.bytes):=by omega
 unfold Ba;simp only[A3,AH,AN,Au,Nat.reduceAdd,BS,AM,CA];have e:∀Z:Array Value,olds.toArray++(news.toArray++Z)=(olds++news).toArray++Z:=by intro Z;rw[<-Array.append_assoc];simp
 generalize BZ=L at E ⊢;generalize BN=F at y c ⊢;rcases H with rfl|⟨q,rfl⟩<;>simp[run_underlying J,run_underlying O,j,E,hroom',typeInfo,hi,hfit',y,c,JV h,Question.forced,zeroValue,Q,newRow,grownCap,Gf,e,go_sem]
theorem ACm{t u ty el:TypeId}{i:TypeInfo}{d:TypeDesc}{x:Value}(B:P.underlying t=some (.slice el))(hi:P.info? el=some i)
 (E:P.underlying u=some d) (y:d=.string\/∃e,d=.slice e) (q:O0 P w i.size x 0 []) :
 (Ba #[t,u] ty #[.slice none 0 0,x]).run P w=.ok (.slice none 0 0) w:=by
 have j:=q.len w;have h:=q.first
 have c:=G9 (P:=P) (w:=w) hi;unfold Ba;simp only[A3,AH,AN,Au,Nat.reduceAdd,BS,AM,CA];generalize BZ=L at j ⊢;generalize BN=F at h ⊢;rcases y with rfl|⟨e,rfl⟩<;>simp[run_underlying B,run_underlying E,c,j,h,go_sem]
structure QZ(P:Program)(w:World)(t u ty el:TypeId)(e:Nat)(y:Value)(n:Nat)(news:List Value):Prop where
 room:∀{b o sLen sCap:Nat} {cur:Array Value} {E:TypeId},sLen+n<=sCap->FM w b cur E e->o+sLen*e+news.length<=cur.size->(∀v∈news,v.oneCell'=true) ->
  (Ba #[t,u] ty #[.slice (some ⟨b,o,none⟩) sLen sCap,y]).run P w =
   .ok (.slice (some ⟨b,o,none⟩) (sLen+n) sCap) (w.setRow b (cur.toList.take (o+sLen*e)++news++cur.toList.drop (o+sLen*e+news.length)).toArray)
 grow:∀{i:TypeInfo} {z:Value} {olds:List Value} {ad:Option Addr} {sLen sCap:Nat},P.info? el=some i->i.zero=some z->i.size=e->O0 P w e (.slice ad sLen sCap) sLen olds->sCap<sLen+n->0<i.bytes->Cg (sLen+n) sCap*i.bytes<=281474976710656->sLen+n<=lim ->
  (Ba #[t,u] ty #[.slice ad sLen sCap,y]).run P w =
   .ok (.slice (some ⟨w.heap.size,0,none⟩) (sLen+n) (grownCap w (sLen+n) sCap el)) (Gf w el (olds.toArray++news.toArray++Ay z.cells (grownCap w (sLen+n) sCap el-(sLen+n))))
 nil:n=0->news=[]->(Ba #[t,u] ty #[.slice none 0 0,y]).run P w=.ok (.slice none 0 0) w
theorem O0.app{t u ty el:TypeId}{i:TypeInfo}{d:TypeDesc}{y:Value}{n:Nat}{news:List Value}{e:Nat}(h:O0 P w e y n news)(I:P.underlying t=some (.slice el))(hi:P.info? el=some i)(H:i.size=e)
 (J:P.underlying u=some d) (G:d=.string\/∃c,d=.slice c):QZ P w t u ty el e y n news:=by
 subst H;refine⟨fun j q B E=>xH I hi J G h j q B E,?_,?_⟩
 .grind[xG]
 grind[ACm]
theorem ADS{t u ty el:TypeId}{i:TypeInfo}{z:Value}{k0 k:IntKind}{m:Int}(O:P.underlying t=some (.slice el))(hi:P.info? el=some i)(hz:i.zero=some z)(Q:P.underlying u=some (.int k0))(h0:0<=m)(Y:m<=lim)(hb:i.bytes<=65536)(hs:0<i.size)(hzs:z.cells.size=i.size) :
 QZ P w t u ty el i.size (.int k m) m.toNat (Ay z.cells m.toNat).toList:=by
 have hlim:(lim:Int)=268435456:=rfl;have X:IntKind.i64.wrap m=m:=Go.IntWalk.i64_in m (by omega);have hm:((m.toNat:Nat):Int)=m:=by omega
 have e:¬(m*(i.bytes:Int)>281474976710656):=by
  have:m*(i.bytes:Int)<=268435456*65536:=Int.mul_le_mul (by omega) (by omega) (by omega) (by omega);omega
 have y:∀w:World,(Go.sizeOf el).run P w=.ok i.size w:=fun w=>G9 (P:=P) (w:=w) hi
 have B:∀w:World,(typeInfo el).run P w=.ok i w:=fun w=>by simp[typeInfo,hi,go_sem]
 have H:∀w:World,(zeroValue el).run P w=.ok z w:=fun w=>by simp[zeroValue,typeInfo,hi,hz,go_sem]
 have j:¬m<0:=by omega
 have J:m.toNat*i.size=0->Ay z.cells m.toNat=#[]:=by
  intro h;apply Array.eq_empty_of_size_eq_zero;simp[Ay,hzs,h]
 have happ:∀w:World,(if m.toNat*i.size=0 then pure #[] else do pure (Ay (<-zeroValue el).cells m.toNat):Sem (Array Value)).run P w=.ok (Ay z.cells m.toNat) w:=by
  intro w;split
  .rename_i h;rw[J h];rfl
  .simp[H,go_sem]
 refine⟨?_,?_,?_⟩
 .intro b o sLen sCap cur E Y h2 h3 h4;have q:=FX (P:=P) h2 h3 h4;unfold Ba;simp only[A3,AH,AN,Au,Nat.reduceAdd,BS,AM,CA];by_cases c:m.toNat*i.size=0
  .rw[J c]at q ⊢;have L:Result.ok () w=Result.ok () (w.setRow b (cur.toList.take (o+sLen*i.size)++[]++cur.toList.drop (o+sLen*i.size+([]:List Value).length)).toArray):=q;have I:=(Result.ok.inj L).2;generalize Ay=Z;simp[run_underlying O,run_underlying Q,y,B,asInt,X,j,e,Y,c,Gz,go_sem];simp at I;exact I
  .generalize Ay=Z at q ⊢;generalize Value.cells=C at q ⊢;simp[run_underlying O,run_underlying Q,y,B,asInt,X,j,e,Y,c,Gz,H,go_sem];simp[q,go_sem]
 .intro i' z' olds ad sLen sCap g1 g2 g3 g4 g5 g6 g7 g8;rw[hi]at g1;cases g1;rw[hz]at g2;cases g2;have G:=g4.drew;have hroom':¬(sLen+m.toNat<=sCap):=by omega
  have hfit':¬(281474976710656<Cg (sLen+m.toNat) sCap*i.bytes):=by omega
  have hneed:¬(9223372036854775807<(sLen:Int)+max m 0):=by
   have:lim=268435456:=rfl;omega
  unfold Ba;simp only[A3,AH,AN,Au,Nat.reduceAdd,BS,AM,CA];by_cases c:m.toNat*i.size=0
  .rw[J c];generalize BN=F at G ⊢;generalize Ay=Z;generalize Value.cells=C;simp[run_underlying O,run_underlying Q,y,B,asInt,X,j,e,hroom',hfit',hneed,c,go_sem];simp[G,H,newRow,grownCap,Gf,Question.forced,JV g6,go_sem]
  .generalize BN=F at G ⊢;generalize Ay=Z;generalize Value.cells=C;simp[run_underlying O,run_underlying Q,y,B,asInt,X,j,e,hroom',hfit',hneed,c,go_sem];simp[G,H,newRow,grownCap,Gf,Question.forced,JV g6,go_sem]
 .intro Y h2;unfold Ba;simp only[A3,AH,AN,Au,Nat.reduceAdd,BS,AM,CA];have hm0:m=0:=by omega
  subst hm0;simp[run_underlying O,run_underlying Q,y,B,asInt,X,go_sem]
end
structure CN(w:World)(e:Nat)(ys:List (List T))(c:Nat->Nat->Value)(f:Nat->Nat->Blk)(vs:List Value):Prop where
 len:vs.length=ys.length*e
 row:∀row∈ys,row.length=e
 cell:∀i j x,at2 ys i j=some x->vs[i*e+j]?=some (c i j)/\Own w x (c i j) (f i j)
 dis:∀i j x i' j' x',at2 ys i j=some x->at2 ys i' j'=some x'->(i=i'->j≠j')->∀b,f i j b->¬f i' j' b
theorem Nh{xs:List (List T)}{e i j:Nat}(c:∀row∈xs,row.length=e)(hi:i<xs.length)(h:j<e):∃x,at2 xs i j=some x:=by
 unfold at2;rw[AW hi];have:=c xs[i] (List.getElem_mem hi);exact⟨_,AW (by omega)⟩
theorem CN.one{w:World}{e:Nat}{ys:List (List T)}{c:Nat->Nat->Value}{f:Nat->Nat->Blk}{vs:List Value}(h:CN w e ys c f vs):∀v∈vs,v.oneCell'=true:=by
 intro v H;obtain⟨k,B⟩:=Bh H;have j:k<vs.length:=(AP.1 B).1;rw[h.len]at j;have y:0<e:=by
  grind[Nat.eq_zero_or_pos]
 have hi:k / e<ys.length:=(Cp y).2 j;have G:k % e<e:=ER _ y;obtain⟨x,I⟩:=Nh h.row hi G;obtain⟨q,E⟩:=h.cell _ _ _ I;rw[F4,GC,B]at q;cases q;exact E.one
theorem CN.nil{w:World}{e:Nat}:CN w e [] (fun _ _=>undef) (fun _ _ _=>False) []:=
 ⟨by simp,by simp,by intro i j x c;simp[at2]at c,by intro i j x h q y c;simp[at2]at c⟩
theorem CN.read{w:World}{e:Nat}{ys:List (List T)}{c:Nat->Nat->Value}{f:Nat->Nat->Blk}(B:∀row∈ys,row.length=e)(H:∀i j x,at2 ys i j=some x->Own w x (c i j) (f i j))
 (E:∀i j x q y I,at2 ys i j=some x->at2 ys q y=some I->(i=q->j≠y)->∀b,f i j b->¬f q y b) :
 CN w e ys c f ((List.range (ys.length*e)).map fun k=>c (k / e) (k % e)):=by
 refine⟨by simp,B,?_,E⟩;intro i j x h;refine⟨?_,H i j x h⟩;have hi:=sA h;have J:=OT h B;have G:i*e+j<ys.length*e:=by
  have:(i+1)*e<=ys.length*e:=Aj _ hi
  grind[Nat.add_mul]
 grind[List.getElem?_range,Option.some.injEq,Nat.mul_comm,Nat.mul_add_div,Nat.div_eq_of_lt,Nat.mul_add_mod,Nat.mod_eq_of_lt]
theorem Nc{P:Program}{w:World}{e:Nat}{ys:List (List T)}{c:Nat->Nat->Value}{f:Nat->Nat->Blk}{vs:List Value}{blk off cap:Nat}(h:CN w e ys c f vs)
 (I:∀i j x,at2 ys i j=some x->w.cell? ⟨blk,off+i*e+j,none⟩=some (c i j)):O0 P w e (.slice (some ⟨blk,off,none⟩) ys.length cap) ys.length vs:=by
 have hcell:∀j v,vs[j]?=some v->w.cell? ((⟨blk,off,none⟩:Addr).add j)=some v:=by
  intro k v B;have q:k<vs.length:=(AP.1 B).1;rw[h.len]at q;have y:0<e:=by
   grind[Nat.eq_zero_or_pos]
  obtain⟨x,G⟩:=Nh h.row ((Cp y).2 q) (ER k y);obtain⟨H,_⟩:=h.cell _ _ _ G
  grind[Nat.mul_comm,Nat.div_add_mod,Nat.add_assoc,Gz]
 refine⟨fun w'=>by simp[BZ],run_firstCells_some (P:=P) w e ys.length ⟨blk,off,none⟩ _ cap vs h.len hcell,?_⟩;refine run_firstCells_some (P:=P) w.drew e ys.length ⟨blk,off,none⟩ _ cap vs h.len ?_;intro j v E;exact hcell j v E
theorem AKn{P:Program}{w:World}{e:Nat}{xs:List (List T)}{v:Value}{fp:Blk}(h:Own w (.sl e xs) v fp) :
 ∃c f vs,CN w e xs c f vs/\O0 P w e v xs.length vs/\∀i j x b,at2 xs i j=some x->f i j b->fp b:=by
 cases h with
 |sc h _ _=>exact h.elim|nl=>
  exact⟨fun _ _=>undef,fun _ _ _=>False,[],⟨by simp,by simp,by simp[at2],by simp[at2]⟩,⟨fun w'=>by simp[BZ],run_firstCells_none ..,run_firstCells_none ..⟩,by simp⟩
 |sl c f E L q H O I y Q B G=>
  subst E;refine⟨c,f,_,CN.read q y B,Nc (CN.read q y B) ?_,?_⟩
  .intro i j x J;rw[H.cell];exact I i j x J
  grind
theorem Qp{xs:List (List T)}(h:Gm xs=true){i j:Nat}{x:T}(e:at2 xs i j=some x):flat x=true:=by
 unfold at2 at e;split at e
 .rename_i row c;simp only[Gm,List.all_eq_true]at h;exact h row (Ap c) x (Ap e)
 .cases e
theorem Nd{w:World}{B:Blk}{x:T}{v:Value}(h:View w B x v)(c:flat x=true):Own w x v (fun _=>False):=by
 cases h with
 |sc e=>exact .sc e (e.one (by cases x<;>first|rfl|simp[flat]at c)) (by simp)
 |sl=>simp[flat]at c|nl=>simp[flat]at c|mp=>simp[flat]at c
theorem mw{P:Program}{w:World}{B:Blk}{e:Nat}{xs:List (List T)}{v:Value}(h:View w B (.sl e xs) v)(L:Gm xs=true) :
 ∃c vs,CN w e xs c (fun _ _ _=>False) vs/\O0 P w e v xs.length vs:=by
 cases h with
 |sc h=>exact h.elim|nl=>
  refine⟨fun _ _=>undef,[],⟨by simp,by simp,by simp[at2],by simp[at2]⟩,fun w'=>by simp[BZ],run_firstCells_none ..,run_firstCells_none ..⟩
 |@sl _ _ a len cap c E Q G H I J=>
  subst E;have hC:CN w e xs c (fun _ _ _=>False) _:=CN.read G (fun i j x q=>Nd (J i j x q) (Qp L q)) (by simp);refine⟨c,_,hC,?_⟩;by_cases q:xs=[]
  .subst q;have O:((List.range (([]:List (List T)).length*e)).map fun k=>c (k / e) (k % e))=[]:=by simp
   rw[O];refine⟨fun w'=>by simp[BZ],?_,?_⟩
   .exact run_firstCells_some (P:=P) w e 0 a 0 cap [] (by simp) (by simp)
   .exact run_firstCells_some (P:=P) w.drew e 0 a 0 cap [] (by simp) (by simp)
  .obtain⟨y,_⟩:=H q;obtain⟨blk,off,sp⟩:=a;dsimp only at y;subst y;exact Nc hC I
theorem Vo{xs ys:List (List T)}{i j:Nat}{x:T}(h:at2 (xs++ys) i j=some x):(i<xs.length/\at2 xs i j=some x)\/(xs.length<=i/\at2 ys (i-xs.length) j=some x):=by
 grind[at2,List.getElem?_append_left,List.getElem?_append_right]
theorem CN.app{w:World}{e:Nat}{xs ys:List (List T)}{c Z:Nat->Nat->Value}{f Q:Nat->Nat->Blk}{vs us:List Value}(h:CN w e xs c f vs)(J:CN w e ys Z Q us)
 (hd:∀i j x E I O b,at2 xs i j=some x->at2 ys E I=some O->f i j b->¬Q E I b) :
 CN w e (xs++ys) (fun i j=>if i<xs.length then c i j else Z (i-xs.length) j) (fun i j=>if i<xs.length then f i j else Q (i-xs.length) j) (vs++us):=by
 refine⟨by simp[h.len,J.len,BX],?_,?_,?_⟩
 .intro row H;rcases CO.1 H with H|H
  .exact h.row row H
  .exact J.row row H
 .intro i j x y;rcases Vo y with ⟨hi,y⟩|⟨hi,y⟩
  .simp only[AX hi];obtain⟨L,X⟩:=h.cell i j x y;refine⟨?_,X⟩;rw[BD (AP.1 L).1];exact L
  .simp only[AU (by omega:¬i<xs.length)];obtain⟨L,X⟩:=J.cell _ j x y;refine⟨?_,X⟩;have:i*e+j=vs.length+((i-xs.length)*e+j):=by
    rw[h.len];have:i*e=xs.length*e+(i-xs.length)*e:=by rw[<-BX];congr 1;omega
    omega
   rw[this,A7 (by omega),Nat.add_sub_cancel_left];exact L
 .intro i j x E I O y q G b;rcases Vo y with ⟨hi,y⟩|⟨hi,y⟩<;>rcases Vo q with ⟨B,q⟩|⟨B,q⟩
  .simp only[AX hi,AX B];exact h.dis i j x E I O y q G b
  .simp only[AX hi,AU (by omega:¬E<xs.length)];exact hd _ _ _ _ _ _ b y q
  .simp only[AU (by omega:¬i<xs.length),AX B];exact fun hb Y=>hd _ _ _ _ _ _ b q y Y hb
  .simp only[AU (by omega:¬i<xs.length),AU (by omega:¬E<xs.length)];exact J.dis _ j x _ I O y q (by intro hh;exact G (by omega)) b
theorem CN.own{w w':World}{e:Nat}{ys:List (List T)}{c:Nat->Nat->Value}{f:Nat->Nat->Blk}{vs:List Value}(h:CN w e ys c f vs){blk off cap:Nat}{arr:Array Value}{E:TypeId}
 (J:FM w' blk arr E e) (q:ys.length<=cap) (H:off+cap*e<=arr.size) (B:∀k v,vs[k]?=some v->arr[off+k]?=some v) (G:∀i j x,at2 ys i j=some x->¬f i j blk)
 (L:∀i j x b,at2 ys i j=some x->f i j b->w'.heap[b]?=w.heap[b]?) :
 Own w' (.sl e ys) (.slice (some ⟨blk,off,none⟩) ys.length cap) (fun b=>b=blk\/∃i j x,at2 ys i j=some x/\f i j b):=by
 refine .sl c f rfl q h.row J H ?_ ?_ G h.dis (fun _=>Iff.rfl)
 .intro i j x y;have:=B _ _ (h.cell i j x y).1;rw[<-this];congr 1;omega
 .intro i j x y;exact(h.cell i j x y).2.frame fun b I=>L i j x b y I
section
variable{F:Fix}{S S' S1:St}{g g':Gh}{a a':Act}{w w':World}
theorem AXf(h:Inv F S g a w){l:AT}{v:Value}(O:Bt F S g w (fun _=>False) l v){e:Nat}{fl:Bool}{ys:List (List T)}(q:PQ e fl S l=some (S1,ys)) :
 Rg F S S1 g a w/\∃c f vs,CN w e ys c f vs/\O0 F.P w e v ys.length vs /\
  (∀i j x b,at2 ys i j=some x->f i j b->¬F.K b/\(∀r,CG S1 r->¬g.fp r b)/\∀id,(get S.bx id).isSome->b≠g.β id):=by
 have same:Rg F S S g a w:=⟨h,fun _ _ h=>h,fun _ h=>h,rfl⟩;have nilsrc:∀{e},O0 F.P w e (.slice none 0 0) ([]:List (List T)).length []:=fun {e}=>
  ⟨fun w'=>by simp[BZ],by simp[BN],by simp[BN]⟩
 match l,O with
 |.t x,O=>
  cases x with
  |str s=>
   simp only[PQ]at q;split at q
   .rename_i he;cases q;subst he;have Q:v=.string ⟨s.toArray⟩:=O;have hC:CN w 1 (J7 s) (fun i _=>((s.map fun b=>Value.int .u8 b.toNat)[i]?).getD undef) (fun _ _ _=>False) (s.map fun b=>Value.int .u8 b.toNat):=by
     refine⟨by simp[J7],?_,?_,by simp⟩
     .intro row hr;simp only[J7,D2]at hr;obtain⟨_,_,rfl⟩:=hr;rfl
     .intro i j x X;obtain⟨b,E,rfl,rfl⟩:=nq X;simp only[J4,C3,List.getElem?_map,E,Ar,Option.getD_some,true_and];exact .sc rfl rfl (by simp)
    refine⟨same,_,_,_,hC,⟨fun w'=>?_,?_,?_⟩,fun _ _ _ _ _ E=>E.elim⟩
    .rw[Q];simp[BZ,J7,ByteArray.size]
    .rw[Q];simp[BN,J7,ByteArray.data_extract]
    .rw[Q];simp[BN,J7,ByteArray.data_extract]
   .cases q
  |nil=>
   simp only[PQ,AD,A0]at q;obtain⟨rfl,rfl⟩:=q;have Q:v=.slice none 0 0:=O;subst Q;exact⟨same,_,_,_,CN.nil,nilsrc,fun _ _ _ _ _ E=>E.elim⟩
  |_=>simp[PQ]at q
 |.vw s e' xs,O=>
  simp only[PQ]at q;split at q
  .rename_i hc;obtain⟨rfl,Y⟩:=hc;simp only[AD,A0]at q;obtain⟨rfl,rfl⟩:=q;obtain⟨B,hV⟩:∃B,View w B (.sl e' xs) v:=by
    cases s with
    |own r p=>obtain⟨_,⟨S0,_,hO⟩,_⟩:=O;exact⟨_,hO.view⟩
    |old k=>exact⟨_,O⟩
   obtain⟨c,vs,hC,hS⟩:=mw (P:=F.P) hV Y;exact⟨same,c,_,vs,hC,hS,fun _ _ _ _ _ E=>E.elim⟩
  .cases q
 |.al r sub,⟨x,u,I,h2,h3⟩=>
  simp only[PQ,I]at q;obtain⟨u',hu',hown⟩:=h.Cq r _ I;rw[h2]at hu';cases hu';obtain⟨S0,hS0,hO⟩:=RD hown h3;split at q
  .rename_i xs H;split at q
   .rename_i he;have Z:Rg F S (S.out r) g a w:=⟨h.out I,fun r' y hy=>lY I hy,fun id L=>VR L,wg⟩;have cells:∃c f vs,CN w e (Jg sub xs) c f vs/\O0 F.P w e v (Jg sub xs).length vs/\∀i j x b,at2 (Jg sub xs) i j=some x->f i j b->S0 b:=by
     cases x with
     |sl e' zs=>
      simp only[content,AD]at H;subst H;simp only[eOf,beq_iff_eq]at he;subst he;exact AKn (P:=F.P) hO
     |nil=>
      simp only[content,AD]at H;subst H;have G:Jg sub ([]:List (List T))=[]:=by cases sub with|none=>rfl|some p=>simp[Jg]
      have Q:v=.slice none 0 0:=by
       cases hO with
       |sc q _ _=>exact q
      subst Q;rw[G];exact⟨_,_,_,CN.nil,nilsrc,fun _ _ _ _ _ E=>E.elim⟩
     |_=>simp[content]at H
    split at q
    .by_cases Y:Gm (Jg sub xs)=true
     case neg=>rw[AU Y]at q;cases q
     rw[AX Y]at q;cases q;obtain⟨c,f,vs,hC,hS,G⟩:=cells;have hC':CN w e (Jg sub xs) c (fun _ _ _=>False) vs:=
      ⟨hC.len,hC.row,fun i j x X=>⟨(hC.cell i j x X).1,Nd (hC.cell i j x X).2.view (Qp Y X)⟩,by simp⟩
     exact⟨same,c,_,vs,hC',hS,fun _ _ _ _ _ E=>E.elim⟩
    .cases q;obtain⟨c,f,vs,hC,hS,G⟩:=cells;refine⟨Z,c,f,vs,hC,hS,fun i j x b X E=>?_⟩;have E:=hS0 b (G i j x b X E);refine⟨h.Gu r ⟨_,I⟩ b E,fun r' hr' J=>?_,fun id L J=>?_⟩
     .obtain⟨hne,hal⟩:=IW I hr';exact h.dis r r' ⟨_,I⟩ hal (Ne.symm hne) b E J
     .subst J;exact h.FR r id ⟨_,I⟩ L E
   .cases q
  .cases q
 |.und,_=>simp[PQ]at q|.ow _,_=>simp[PQ]at q|.ep _ _ _,_=>simp[PQ]at q|.vp _ _,_=>simp[PQ]at q|.bp _ _,_=>simp[PQ]at q|.fn _ _,_=>simp[PQ]at q
end
theorem AVP{P:Program}{w:World}{e:Nat}{xs:List (List T)}{v:Value}{fp:Blk}(h:Own w (.sl e xs) v fp) :
 (v=.slice none 0 0/\xs=[])\/∃c f vs blk off cap arr E,v=.slice (some ⟨blk,off,none⟩) xs.length cap/\xs.length<=cap/\FM w blk arr E e/\off+cap*e<=arr.size/\CN w e xs c f vs/\O0 P w e v xs.length vs /\
  (∀k u,vs[k]?=some u->arr[off+k]?=some u)/\fp blk/\∀i j x b,at2 xs i j=some x->f i j b->fp b/\b≠blk:=by
 cases h with
 |sc h _ _=>exact h.elim|nl=>exact .inl ⟨rfl,rfl⟩|@sl _ _ blk off len cap arr E _ c f O Q I J X Y Z h8 h9 y=>
  subst O;have hC:=CN.read I Z h9;refine .inr ⟨c,f,_,blk,off,cap,arr,E,rfl,Q,J,X,hC,Nc hC ?_,?_,(y _).2 (.inl rfl),?_⟩
  .intro i j x q;rw[J.cell];exact Y i j x q
  .intro k u hk;have B:k<xs.length*e:=by
    have:=(AP.1 hk).1
    rwa[hC.len]at this
   have G:0<e:=by
    rcases JQ e with H|H
    .subst H;simp at B
    .exact H
   obtain⟨x,q⟩:=Nh I ((Cp G).2 B) (ER k G);obtain⟨q1,_⟩:=hC.cell _ _ _ q
   grind[Nat.mul_comm,Nat.div_add_mod,Nat.add_assoc]
  .intro i j x b q L;exact⟨(y b).2 (.inr ⟨i,j,x,q,L⟩),fun G=>h8 i j x q (G▸L)⟩
section
variable{F:Fix}{S S' S1 S2:St}{g g':Gh}{a a':Act}{w w':World}
theorem Inv.quiet(h:Inv F S g a w)(Q:Still w w')(H:∀b,b<w.heap.size->(F.K b\/(∃r,CG S r/\g.fp r b)\/∃id,(get S.bx id).isSome/\b=g.β id)->w'.heap[b]?=w.heap[b]?):Inv F S g a w':=by
 have hR:∀b,F.K b->w'.heap[b]?=w.heap[b]?:=fun b e=>H b (BR (h.rlt b e) h.size) (.inl e)
 have j:∀r,CG S r->∀b,g.fp r b->w'.heap[b]?=w.heap[b]?:=by
  intro r O b e;obtain⟨x,B⟩:=O;obtain⟨v,_,c⟩:=h.Cq r _ B;exact H b (Own.lt c b e) (.inr (.inl ⟨r,⟨x,B⟩,e⟩))
 refine { Cq:=?_,tms:=h.tms,bxs:=?_,dis:=h.dis,FR:=h.FR,Gu:=h.Gu,GM:=h.GM,bxR:=h.bxR,FV:=?_,rlt:=h.rlt,still:=h.still.trans Q,defs:=h.defs,tsz:=h.tsz,pin:=h.pin}
 .intro r l q;obtain⟨v,J,c⟩:=h.Cq r l q;by_cases y:∃x,l=.ow x
  .obtain⟨x,rfl⟩:=y;exact⟨v,J,Own.frame c (j r ⟨x,q⟩)⟩
  .have I:∀x,l≠.ow x:=fun x B=>y ⟨x,B⟩
   exact⟨v,J,Bt.any I ((Bt.any (fp':=fun _=>False) I c).tr (S':=S) (g':=g) (w':=w') (fun X G=>⟨rfl,rfl,fun _ h=>h,j X (c.alive G)⟩) (fun _ _=>rfl) (fun _ h=>h.elim) hR)⟩
 .intro id ls q;obtain⟨⟨E,hE⟩,L⟩:=h.bxs id ls q;exact⟨⟨E,(H _ (A1.1 hE).1 (.inr (.inr ⟨id,by simp[q],rfl⟩))).trans hE⟩,L⟩
 .intro b e;exact(hR b e).trans (h.FV b e)
def EA(F:Fix)(S:St)(g:Gh)(b:Nat):Prop:=¬F.K b/\(∀r,CG S r->¬g.fp r b)/\∀id,(get S.bx id).isSome->b≠g.β id
theorem Inv.cY(h:Inv F S g a w){d:Nat}{x:T}{v:Value}{S0:Blk}(Q:d<F.N)(hp:S.D9 d ⟨.one,[.ow x]⟩=some S')(hs:Still w w')
 (hw:∀b,b<w.heap.size->¬EA F S g b->w'.heap[b]?=w.heap[b]?) (Z:Own w' x v S0) (hS:∀b,S0 b->w.heap.size<=b\/EA F S g b):∃g',Inv F S' g' (a.put (some d) v) w':=by
 have O:Inv F S g a w':=h.quiet hs fun b e B=>hw b e (by
  rintro⟨l1,l2,l3⟩;rcases B with B|⟨r,J,B⟩|⟨id,j,rfl⟩
  .exact l1 B
  .exact l2 r J B
  .exact l3 id j rfl)
 have q:∀b,S0 b->EA F S g b:=by
  intro b e;rcases hS b e with e|e
  .refine⟨fun hK=>absurd (BR (h.rlt b hK) h.size) (by omega),?_,?_⟩
   .rintro r ⟨y,L⟩ X;obtain⟨u,_,I⟩:=h.Cq r _ L;exact absurd (Own.lt I b X) (by omega)
   .rintro id j rfl;obtain⟨ls,H⟩:=Option.isSome_iff_exists.1 j;obtain⟨⟨E,hE⟩,_⟩:=h.bxs id ls H;exact absurd (A1.1 hE).1 (by omega)
  .exact e
 refine O.D9 (vs:=[v]) (nf:=fun _=>S0) hp Q ⟨rfl,?_,?_⟩
 .intro c l G;cases c with|zero=>simp only[AM,AD]at G;subst G;exact⟨v,rfl,Z⟩|succ c=>simp at G
 .intro c y L;refine⟨fun b e=>(q b e).1,fun r J b e=>(q b e).2.1 r J,fun id j e=>(q _ e).2.2 id j rfl,fun c' y' hy' Y=>?_⟩
  grind
theorem JF(z:Array Value)(n:Nat):(Ay z n).size=n*z.size:=by simp[Ay]
theorem VI{P:Program}{el:TypeId}(h:Ma P el=true):∃i z,P.info? el=some i/\i.zero=some z/\z.cells.size=i.size/\0<i.bytes:=by
 grind[Ma]
theorem yD(h:Inv F S g a w){d e:Nat}{t u ty el:TypeId}{xs ys:List (List T)}{c c':Nat->Nat->Value}{f Z:Nat->Nat->Blk}{olds news:List Value}{ad:Option Addr}{sCap:Nat}{y:Value}
 (hd:d<F.N) (hp:S.D9 d ⟨.one,[.ow (.sl e (xs++ys))]⟩=some S') (ht:F.P.underlying t=some (.slice el)) (hg:Ma F.P el=true) (he:Fo F.P t e=true)
 (hx:CN w e xs c f olds) (hxs:O0 F.P w e (.slice ad xs.length sCap) xs.length olds) (hy:CN w e ys c' Z news) (hys:QZ F.P w t u ty el e y ys.length news) (hroom:sCap<xs.length+ys.length) (hlim:xs.length+ys.length<=lim)
 (I:∀i j x i' j' x' b,at2 xs i j=some x->at2 ys i' j'=some x'->f i j b->¬Z i' j' b) (hl:∀i j x b,at2 xs i j=some x->f i j b->EA F S g b) (hl':∀i j x b,at2 ys i j=some x->Z i j b->EA F S g b) :
 ∃v w' g',(Ba #[t,u] ty #[.slice ad xs.length sCap,y]).run F.P w=.ok v w'/\Inv F S' g' (a.put (some d) v) w'/\∀b,b<w.heap.size->w'.heap[b]?=w.heap[b]?:=by
 obtain⟨i,z,hi,hz,hzs,hb0⟩:=VI hg;obtain⟨el',i',Y,L,O,hby,hpos⟩:=Ge he;rw[ht]at Y;cases Y;rw[hi]at L;cases L;have J:Cg (xs.length+ys.length) sCap*i.bytes<=281474976710656:=by
  have h1:=nextslicecap_le hroom;have h2:xs.length+ys.length<=268435456:=hlim
  calc Cg (xs.length+ys.length) sCap*i.bytes<=(2*268435456)*65536:=Nat.mul_le_mul (by omega) hby
   _<=281474976710656:=by omega
 have hrun:=hys.grow hi hz O hxs hroom hb0 J hlim;have hge:=grownCap_ge w (xs.length+ys.length) sCap el;have hA:=hx.app hy I;have Q:(xs++ys).length=xs.length+ys.length:=by simp
 have X:FM (Gf w el (olds.toArray++news.toArray++Ay z.cells (grownCap w (xs.length+ys.length) sCap el-(xs.length+ys.length)))) w.heap.size
  (olds.toArray++news.toArray++Ay z.cells (grownCap w (xs.length+ys.length) sCap el-(xs.length+ys.length))) el e:=.of MP
 have G:∀{cells:Array Value} {b:Nat},b<w.heap.size->(Gf w el cells).heap[b]?=w.heap[b]?:=fun q=>E9 q
 have E:∀i j x b,at2 (xs++ys) i j=some x->(if i<xs.length then f i j else Z (i-xs.length) j) b->b<w.heap.size/\EA F S g b:=by
  intro i j x b B q;refine⟨Own.lt (hA.cell i j x B).2 b q,?_⟩;rcases Vo B with ⟨hi,H⟩|⟨hi,H⟩
  .rw[AX hi]at q;exact hl _ _ _ b H q
  .rw[AU (by omega)]at q;exact hl' _ _ _ b H q
 have hO:=hA.own (cap:=grownCap w (xs.length+ys.length) sCap el) (off:=0) X (by rw[Q];exact hge) (by
  simp only[Array.size_append,A3,JF,hx.len,hy.len,hzs,O,Au];rw[<-BX,<-BX];exact Aj _ (by omega)) (by
  intro k v hk;rw[Au,Array.getElem?_append_left]
  .simpa using hk
  .have:=(AP.1 hk).1;simpa using this) (by
  intro i j x B q;exact absurd (E i j x _ B q).1 (by omega)) (fun i j x b B q=>G (E i j x b B q).1)
 obtain⟨g',hG⟩:=h.cY hd hp (w':=Gf w el (olds.toArray++news.toArray++Ay z.cells (grownCap w (xs.length+ys.length) sCap el-(xs.length+ys.length)))) (by
  refine .old ?_ rfl rfl fun b q=>G q
  show w.heap.size<=(w.heap.push _).size;rw[Array.size_push];omega) (fun b q _=>G q) hO (by
  rintro b (rfl|⟨i,j,x,B,q⟩)
  .exact .inl (Ad _)
  .exact .inr (E i j x b B q).2)
 grind
theorem AMx(h:Inv F S g a w){d e:Nat}{t u ty el:TypeId}{xs ys:List (List T)}{c c':Nat->Nat->Value}{f Z:Nat->Nat->Blk}{olds news:List Value}{blk off sCap:Nat}{arr:Array Value}{E:TypeId}{y:Value}
 (hd:d<F.N) (hp:S.D9 d ⟨.one,[.ow (.sl e (xs++ys))]⟩=some S') (ht:F.P.underlying t=some (.slice el)) (he:Fo F.P t e=true)
 (hx:CN w e xs c f olds) (hr:FM w blk arr E e) (hsz:off+sCap*e<=arr.size) (hat:∀k u,olds[k]?=some u->arr[off+k]?=some u) (hy:CN w e ys c' Z news) (hys:QZ F.P w t u ty el e y ys.length news) (hroom:xs.length+ys.length<=sCap)
 (L:∀i j x i' j' x' b,at2 xs i j=some x->at2 ys i' j'=some x'->f i j b->¬Z i' j' b) (hl:∀i j x b,at2 xs i j=some x->f i j b->EA F S g b/\b≠blk) (hl':∀i j x b,at2 ys i j=some x->Z i j b->EA F S g b/\b≠blk)
 (B:EA F S g blk) :
 ∃v w' g',(Ba #[t,u] ty #[.slice (some ⟨blk,off,none⟩) xs.length sCap,y]).run F.P w=.ok v w'/\Inv F S' g' (a.put (some d) v) w'/\∀b,b≠blk->w'.heap[b]?=w.heap[b]?:=by
 obtain⟨el',i,Y,hi,his,hby,hpos⟩:=Ge he;rw[ht]at Y;cases Y;have hA:=hx.app hy L;have Q:(xs++ys).length=xs.length+ys.length:=by simp
 have X:(xs.length+ys.length)*e<=sCap*e:=Aj _ hroom;rw[BX]at X;have H:off+xs.length*e+news.length<=arr.size:=by rw[hy.len];omega
 have hrun:=hys.room (sCap:=sCap) hroom hr H hy.one;have G:∀i j x b,at2 (xs++ys) i j=some x->(if i<xs.length then f i j else Z (i-xs.length) j) b->EA F S g b/\b≠blk:=by
  intro i j x b q B;rcases Vo q with ⟨hi,J⟩|⟨hi,J⟩
  .rw[AX hi]at B;exact hl _ _ _ b J B
  .rw[AU (by omega)]at B;exact hl' _ _ _ b J B
 have hO:=hA.own (cap:=sCap) (off:=off) (w':=w.setRow blk (arr.toList.take (off+xs.length*e)++news++arr.toList.drop (off+xs.length*e+news.length)).toArray) (hr.set (by simp;omega)) (by rw[Q];exact hroom) (by simp;omega) (by
  intro k v O;have I:=Gj arr.toList (off+xs.length*e) news (by simpa using H) (off+k);rw[Na _ _ _ (by simpa using H)]at I;simp only[BS];rw[I];by_cases hk':k<olds.length
  .rw[BD hk']at O;have:=hx.len;rw[AU (by omega)];simpa using hat k v O
  .rw[A7 (by omega)]at O;have h1:=hx.len;have h2:=(AP.1 O).1;rw[AX (by omega)];rw[<-O];congr 1;omega) (fun i j x q B=>(G i j x _ q B).2 rfl) (fun i j x b q B=>setRow_other (G i j x b q B).2)
 obtain⟨g',hG⟩:=h.cY hd hp (w':=w.setRow blk (arr.toList.take (off+xs.length*e)++news++arr.toList.drop (off+xs.length*e+news.length)).toArray) (by
  exact Still.setRow) (fun b _ hnl=>setRow_other (by rintro rfl;exact hnl B)) hO (by
  rintro b (rfl|⟨i,j,x,q,B⟩)
  .exact .inr B
  .exact .inr (G i j x b q B).1)
 grind[setRow_other]
theorem AKd{r:CD}{x:T}(h:Inv F S g a w)(e:S.at r=some (.ow x)){b:Nat}(q:g.fp r b):EA F (S.out r) g b:=by
 refine⟨h.Gu r ⟨_,e⟩ b q,fun r' E c=>?_,fun id y c=>?_⟩
 .obtain⟨B,j⟩:=IW e E;exact h.dis r r' ⟨_,e⟩ j (Ne.symm B) b q c
 .subst c;exact h.FR r id ⟨_,e⟩ (VR y) q
theorem ACF{P:Program}{w:World}{e:Nat}:O0 P w e (.slice none 0 0) ([]:List (List T)).length []:=
 ⟨fun w'=>by simp[BZ],by simp[BN],by simp[BN]⟩
theorem Uz(h:Inv F S g a w){d e:Nat}{t u ty el:TypeId}{ys:List (List T)}{Y:Nat->Nat->Value}{I:Nat->Nat->Blk}{news:List Value}{y:Value}
 (J:d<F.N) (O:S.D9 d ⟨.one,[.ow (.sl e ys)]⟩=some S') (Q:F.P.underlying t=some (.slice el)) (hg:Ma F.P el=true) (L:Fo F.P t e=true)
 (X:CN w e ys Y I news) (E:QZ F.P w t u ty el e y ys.length news) (hlim:ys.length<=lim) (G:∀i j x b,at2 ys i j=some x->I i j b->EA F S g b) :
 ∃v w' g',(Ba #[t,u] ty #[.slice none 0 0,y]).run F.P w=.ok v w'/\Inv F S' g' (a.put (some d) v) w'/\∀b,b<w.heap.size->w'.heap[b]?=w.heap[b]?:=by
 cases ys with
 |nil=>
  obtain⟨Z,i,B,hi,his,_,_⟩:=Ge L;rw[Q]at B;cases B;have hn:news=[]:=by
   have:=X.len;simp at this;exact List.eq_nil_of_length_eq_zero (by simpa using this)
  subst hn;have q:=E.nil rfl rfl;obtain⟨g',hG⟩:=h.cY (w':=w) (x:=.sl e []) (v:=.slice none 0 0) (S0:=fun _=>False) J O Still.refl (fun _ _ _=>rfl) (.nl (by simp)) (fun _ hb=>hb.elim);exact⟨_,_,g',q,hG,fun _ _=>rfl⟩
 |cons r rs=>
  exact yD h (xs:=[]) (c:=fun _ _=>undef) (f:=fun _ _ _=>False) (olds:=[]) (sCap:=0) J O Q hg L .nil ACF X E (by simp) (by simpa using hlim)
   (by intro i j x i' j' x' b H;simp[at2]at H) (by intro i j x b H;simp[at2]at H) G
theorem EA.out{r:CD}{x:T}{b:Nat}(h:EA F S g b)(j:S.at r=some (.ow x)):EA F (S.out r) g b:=
 ⟨h.1,fun r' e=>h.2.1 r' (IW j e).2,fun id c=>h.2.2 id (VR c)⟩
theorem EA.tg{b:Nat}(h:EA F S g b)(hT:Iu F S S' g g' a w):EA F S' g' b:=
 ⟨h.1,fun r' e j=>h.2.1 r' (hT.al r' e) (hT.fp r' b j),fun id c=>by rw[hT.β];exact h.2.2 id (hT.bx id c)⟩
theorem AJa(h:Inv F S2 g a w){v:Value}{d e:Nat}{xs ys:List (List T)}{S0:Blk}{t u ty el:TypeId}{c':Nat->Nat->Value}{L:Nat->Nat->Blk}{news:List Value}{y:Value}
 (hO:Own w (.sl e xs) v S0) (hl:∀b,S0 b->EA F S2 g b) (hlim:xs.length+ys.length<=lim) (hd:d<F.N) (hp:S2.D9 d ⟨.one,[.ow (.sl e (xs++ys))]⟩=some S') (ht:F.P.underlying t=some (.slice el))
 (hg:Ma F.P el=true) (he:Fo F.P t e=true) (hy:CN w e ys c' L news) (Q:QZ F.P w t u ty el e y ys.length news) (G:∀i j x b,at2 ys i j=some x->L i j b->EA F S2 g b/\¬S0 b) :
 ∃Z w' g',(Ba #[t,u] ty #[v,y]).run F.P w=.ok Z w'/\Inv F S' g' (a.put (some d) Z) w'/\∀b,b<w.heap.size->¬S0 b->w'.heap[b]?=w.heap[b]?:=by
 obtain⟨rfl,rfl⟩|⟨c,f,olds,blk,off,cap,arr,E,rfl,q2,q3,q4,q5,q6,q7,q8,Y⟩:=AVP (P:=F.P) hO
 .grind[Uz]
 have H:∀i j x I J x' b,at2 xs i j=some x->at2 ys I J=some x'->f i j b->¬L I J b:=
  fun i j x I J x' b q X B O=>(G I J x' b X O).2 (Y i j x b q B).1
 by_cases hroom:xs.length+ys.length<=cap
 .obtain⟨Z,w',g',r1,r2,r3⟩:=AMx (ty:=ty) h hd hp ht he q5 q3 q4 q7 hy Q hroom H (fun i j x b q B=>⟨hl b (Y i j x b q B).1,(Y i j x b q B).2⟩)
   (fun i j x b q B=>⟨(G i j x b q B).1,by rintro rfl;exact(G i j x _ q B).2 q8⟩) (hl _ q8)
  grind
 grind[yD]
theorem yK(h:Inv F S g a w){lx:AT}{v:Value}(Q:Bt F S g w (fun _=>False) lx v)(hT:Rg F S S1 g a w){d e n:Nat}{b:T}{t u ty el:TypeId}{ys:List (List T)}{c':Nat->Nat->Value}{f':Nat->Nat->Blk}{news:List Value}{y:Value}
 (c:Rh e S1 lx=some (S2,b,n)) (hlim:n+ys.length<=lim) (hd:d<F.N) (hp:S2.D9 d ⟨.one,[.ow (AJz e b ys)]⟩=some S') (ht:F.P.underlying t=some (.slice el))
 (hg:Ma F.P el=true) (he:Fo F.P t e=true) (hy:CN w e ys c' f' news) (J:QZ F.P w t u ty el e y ys.length news) (E:∀i j x b,at2 ys i j=some x->f' i j b->EA F S1 g b) :
 ∃H w' g',(Ba #[t,u] ty #[v,y]).run F.P w=.ok H w'/\Inv F S' g' (a.put (some d) H) w'/\∀b,b<w.heap.size->(∀r,lx.Bz=some r->¬g.fp r b)->w'.heap[b]?=w.heap[b]?:=by
 unfold Rh at c;split at c
 .simp only[AD,A0]at c;obtain⟨rfl,rfl,rfl⟩:=c;have hv:v=.slice none 0 0:=Q;subst hv;obtain⟨H,w',g',X,Y,Z⟩:=Uz (ty:=ty) hT.inv hd hp ht hg he hy J (by omega) E;exact⟨H,w',g',X,Y,fun b c _=>Z b c⟩
 .rename_i r sub;split at c
  .rename_i x O;obtain⟨x',uv,h1,h2,h3⟩:=Q;have I:=hT.same r _ O;rw[h1]at I;cases I;obtain⟨u',hu',hown⟩:=h.Cq r _ h1;rw[h2]at hu';cases hu';obtain⟨S0,hS0,hO⟩:=RD hown h3;split at c
   .rename_i zs G;split at c
    .rename_i hc;simp only[AD,A0]at c;obtain⟨rfl,rfl,rfl⟩:=c;have L:=hT.inv.out O;have hl2:∀i j x b,at2 ys i j=some x->f' i j b->EA F (S1.out r) g b:=fun i j x b B c=>(E i j x b B c).out O
     have hne:∀i j x b,at2 ys i j=some x->f' i j b->¬g.fp r b:=fun i j x b B c=>(E i j x b B c).2.1 r ⟨_,O⟩
     cases x with
     |sl e' xs0=>
      simp only[content,AD]at G;subst G;simp only[eOf,beq_iff_eq]at hc;obtain⟨rfl,_⟩:=hc;obtain⟨H,w',g',X,Y,Z⟩:=AJa (ty:=ty) (xs:=Jg sub xs0) L hO (fun b c=>AKd hT.inv O (hS0 b c)) hlim hd hp ht hg he hy J (fun i j x b B c=>⟨hl2 i j x b B c,fun q=>hne i j x b B c (hS0 b q)⟩);exact⟨H,w',g',X,Y,fun b c hr=>Z b c fun q=>hr r rfl (hS0 b q)⟩
     |nil=>
      simp only[content,AD]at G;subst G;have hv:v=.slice none 0 0:=by
       cases hO with
       |sc hs _ _=>exact hs
      subst hv;obtain⟨H,w',g',X,Y,Z⟩:=Uz (ty:=ty) L hd hp ht hg he hy J (by omega) hl2;exact⟨H,w',g',X,Y,fun b c _=>Z b c⟩
     |_=>simp[content]at G
    .cases c
   .cases c
  .cases c
 .rename_i r i j e' xs;split at c
  .rename_i hee;subst hee;split at c
   .rename_i S3 hpl;simp only[AD,A0]at c;obtain⟨rfl,rfl,rfl⟩:=c;obtain⟨hal,_,k⟩:=Q;obtain⟨e0,rows,O,_⟩:=N8 hpl;have I:=hT.same r _ O;obtain⟨e1,rows1,blk,off,len,cap,k1,k2,k3,k4,k5⟩:=k;rw[I]at k1;cases k1;obtain⟨S0,g1,q1,q2,q3,q4,q5,q6,q7⟩:=hT.inv.pull hpl ⟨_,_,blk,off,len,cap,O,k2,k3,k4,k5⟩;have hloose:∀b,S0 b->EA F S3 g1 b:=fun b c=>
     ⟨hT.inv.Gu r q7 b (q3 b c),fun r' hr' q=>by
      by_cases hrr:r'=r
      .subst hrr;exact q4 b c q
      .exact hT.inv.dis r r' q7 (q1.al r' hr') (Ne.symm hrr) b (q3 b c) (q1.fp r' b q),fun id hid q=>by
      rw[q1.β]at q;subst q;exact hT.inv.FR r id q7 (q1.bx id hid) (q3 _ c)⟩
    obtain⟨H,w',g',X,Y,Z⟩:=AJa (ty:=ty) q1.inv q2 hloose hlim hd hp ht hg he hy J (fun i j x b B c=>⟨(E i j x b B c).tg q1,fun q=>(E i j x b B c).2.1 r q7 (q3 b q)⟩);exact⟨H,w',g',X,Y,fun b c hr=>Z b c fun q=>hr r rfl (q3 b q)⟩
   .cases c
  .cases c
 .cases c
theorem AFX(h:Inv F S g a w){d e:Nat}{fl:Bool}{t u ty el:TypeId}{dd:TypeDesc}{oa ob:Operand}{x y:Opd}(hd:d<F.N)(c:ev (.app d e fl x y) S=some S')(Z:B9 oa x=true)(hob:B9 ob y=true)
 (X:∀p∈CF oa x,Mt F.A F.P p.1 p.2) (Y:∀p∈CF ob y,Mt F.A F.P p.1 p.2) (he:Fo F.P t e=true) (ht:F.P.underlying t=some (.slice el)) (hg:Ma F.P el=true) (hu:F.P.underlying u=some dd) (G:dd=.string\/∃e',dd=.slice e') :
 ∃v w' g',(Ba #[t,u] ty #[a.eval oa,a.eval ob]).run F.P w=.ok v w'/\Inv F S' g' (a.put (some d) v) w'/\∀b,b<w.heap.size->(∀l r,S.one x=some l->l.Bz=some r->¬g.fp r b)->w'.heap[b]?=w.heap[b]?:=by
 obtain⟨el',i,E,hi,I,_,_⟩:=Ge he;rw[ht]at E;cases E;simp only[ev]at c;split at c
 .rename_i lx ly hx hy;split at c
  .rename_i S1 ys hs;split at c
   .rename_i S2 b n q;split at c
    .rename_i hlim;obtain⟨O,_⟩:=Hp h hx Z X;obtain⟨Q,_⟩:=Hp h hy hob Y;obtain⟨hT,c',f',news,hC,hS,J⟩:=AXf h Q hs;obtain⟨v',w',g',r1,r2,r3⟩:=yK (ty:=ty) h O hT q hlim hd c ht hg he hC (hS.app ht hi I hu G) fun i j x b B q=>⟨(J i j x b B q).1,(J i j x b B q).2.1,fun id H=>(J i j x b B q).2.2 id (hT.bx id H)⟩
     exact⟨v',w',g',r1,r2,fun b q hr=>r3 b q fun r L=>hr lx r hx L⟩
    .cases c
   .cases c
  .cases c
 .cases c
theorem wD(h:Inv F S g a w){d:Nat}{t u ty el:TypeId}{k0:IntKind}{q:List T}{oa ob:Operand}{x y:Opd}(hd:d<F.N)(c:ev (.SA d q x y) S=some S')(hoa:B9 oa x=true)(hob:B9 ob y=true)
 (hma:∀p∈CF oa x,Mt F.A F.P p.1 p.2) (hmb:∀p∈CF ob y,Mt F.A F.P p.1 p.2) (he:Fo F.P t q.length=true) (ht:F.P.underlying t=some (.slice el)) (hg:Ma F.P el=true) (hz:ACl F.P el q=true) (hu:F.P.underlying u=some (.int k0)) :
 ∃v w' g',(Ba #[t,u] ty #[a.eval oa,a.eval ob]).run F.P w=.ok v w'/\Inv F S' g' (a.put (some d) v) w'/\∀b,b<w.heap.size->(∀l r,S.one x=some l->l.Bz=some r->¬g.fp r b)->w'.heap[b]?=w.heap[b]?:=by
 obtain⟨el',i,L,hi,B,X,J⟩:=Ge he;rw[ht]at L;cases L;obtain⟨i2,z,G,hzv,his2,e,hzc⟩:=mG (w:=w) hz;rw[hi]at G;cases G;simp only[ev]at c;split at c
 .rename_i lx m Q hm;obtain⟨k,hk⟩:=TH h hm hob hmb;split at c
  .rename_i hc;obtain⟨Y,Z⟩:=hc;split at c
   .rename_i S2 b n E;split at c
    .rename_i hlim;obtain⟨hlx,_⟩:=Hp h Q hoa hma;have hC0:CN w q.length (rowsOf m.toNat q) (fun i j=>((Ay z.cells m.toNat)[i*q.length+j]?).getD undef) (fun _ _ _=>False) (Ay z.cells m.toNat).toList:=by
      refine⟨by simp[JF,rowsOf,e],by intro row O;simp[rowsOf]at O;rw[O.2],?_,by simp⟩;intro i j x Q;obtain⟨hi,hj⟩:=dL Q;obtain⟨v,hv',hs⟩:=hzc j x hj;have hjl:j<q.length:=(AP.1 hj).1;have I:(i+1)*q.length<=m.toNat*q.length:=Aj _ hi;rw[BX,DY]at I;have hmm:(Ay z.cells m.toNat)[i*q.length+j]?=some v:=by
       have hlt:i*q.length+j<m.toNat*z.cells.size:=by rw[e];omega
       have H:(i*q.length+j) % z.cells.size=j:=by rw[e,F4,Nat.mul_add_mod];exact Nat.mod_eq_of_lt hjl
       have hg:z.cells[j]! = v:=by
        rw[Array.getElem!_eq_getD,Array.getD_eq_getD_getElem?,hv'];rfl
       simp only[Ay,Array.getElem?_map,Array.getElem?_range,AX hlt,Ar,H,hg]
      rw[DT,hmm];exact⟨rfl,hs⟩
     have hA:QZ F.P w t u ty el q.length (.int k m) (rowsOf m.toNat q).length (Ay z.cells m.toNat).toList:=by
      have:=ADS (P:=F.P) (w:=w) (ty:=ty) (k:=k) ht hi hzv hu Y Z X (by rw[B];exact J) (by rw[e,B]);rw[B]at this;simpa[rowsOf] using this
     rw[hk];obtain⟨v',w',g',r1,r2,r3⟩:=yK (ty:=ty) h hlx ⟨h,fun _ _ h=>h,fun _ h=>h,rfl⟩ E (by simpa[rowsOf] using hlim) hd c ht hg he hC0 hA (fun _ _ _ _ _ E=>E.elim);exact⟨v',w',g',r1,r2,fun b E O=>r3 b E fun r hlr=>O lx r Q hlr⟩
    .cases c
   .cases c
  .cases c
 .cases c
end
theorem yM{xs:List (List T)}{e:List UInt8}(h:bytesOf xs=some e):∃ns:List Int,xs=ns.map (fun n=>[T.int .u8 n])/\e=ns.map fun n=>UInt8.ofNat n.toNat:=by
 induction xs generalizing e with
 |nil=>simp only[bytesOf,AD]at h;subst h;exact⟨[],rfl,rfl⟩|cons x xs E=>
  simp only[bytesOf]at h;split at h
  .rename_i b q c j;cases h;obtain⟨ns,y,B⟩:=E j;unfold byteOf at c;split at c
   .rename_i n;cases c;exact⟨n::ns,by simp[y],by simp[B]⟩
   .cases c
  .cases h
theorem foldl_push(f:Int->UInt8)(ns:List Int)(r:ByteArray):ns.foldl (fun r n=>r.push (f n)) r=⟨r.data++(ns.map f).toArray⟩:=by
 induction ns generalizing r with
 |nil=>simp|cons n ns c=>rw[List.foldl_cons,c];simp[ByteArray.push]
section
variable{F:Fix}{S S':St}{g g':Gh}{a a':Act}{w w':World}
theorem wF(h:Inv F S g a w){d:Nat}{s t:TypeId}{o:Operand}{x:Opd}(hd:d<F.N)(q:ev (.O3 d x) S=some S')(ho:B9 o x=true)(hm:∀p∈CF o x,Mt F.A F.P p.1 p.2)(E:Q3 F.P s=true)(ht:isStr F.P t=true) :
 ∃v g',(∀w1,AMk (a.eval o) w w1->(convert s t (a.eval o)).run F.P w1=.ok v w1)/\Inv F S' g' (a.put (some d) v) w:=by
 simp only[ev]at q;split at q
 .rename_i l hl;split at q
  .rename_i xs hxs;split at q
   .rename_i bs hbs;obtain⟨hlx,_⟩:=Hp h hl ho hm;unfold isStr at ht;split at ht
    .rename_i I;unfold Q3 at E;split at E
     .rename_i el H;simp only[AF]at E;obtain⟨y,_⟩:=E;unfold isInt at y;split at y
      .rename_i k G;simp only[decide_eq_true_eq]at y;subst y;obtain⟨ns,B,Z⟩:=yM hbs;have Q:∀w1,AMk (a.eval o) w w1->(convert s t (a.eval o)).run F.P w1=.ok (.string ⟨bs.toArray⟩) w1:=by
        intro w1 J;rcases U6 h hlx hxs with ⟨hx0,hv⟩|⟨e,hV,_⟩
        .subst hx0;have:ns=[]:=by simpa using B.symm
         subst this;rw[hv,run_convert_bytes_string w1 s t el none 0 0 H G I];subst Z;simp[Conv.bytesToString,Az];rfl
        .have hflat:Gm xs=true:=by subst B;simp[Gm,flat]
         have hV:View w1 (fun _=>True) (.sl e xs) (a.eval o):=by
          revert J;generalize a.eval o=v at hV;intro J;cases hV with
          |sc h=>exact h.elim|nl=>exact .nl|@sl _ _ ad len cap Y q1 q2 X q4 q5 q6=>
           refine .sl Y q1 q2 X q4 ?_ ?_
           .intro i j x L;rw[LO (J ad.block rfl)];exact q5 i j x L
           .intro i j x L;have hf:=Qp hflat L;have hq:=q6 i j x L;revert hq;generalize Y i j=u;intro hq;cases hq with|sc E=>exact .sc E|sl=>simp[flat]at hf|nl=>simp[flat]at hf|mp=>simp[flat]at hf
         obtain⟨c,vs,hC,hS⟩:=mw (P:=F.P) hV hflat;generalize hv:a.eval o=v at *;cases hV with
         |sc h=>exact h.elim|nl=>
          have:ns=[]:=by simpa using B.symm
          subst this;rw[run_convert_bytes_string w1 s t el none 0 0 H G I];subst Z;simp[Conv.bytesToString,Az];rfl
         |@sl _ _ ad len cap Y q1 q2 X q4 q5 q6=>
          rw[run_convert_bytes_string w1 s t el (some ad) len cap H G I];have hload:=hS.first
          have hvs:vs=ns.map (Value.int .u8):=by
           apply List.ext_getElem?;intro i;cases hi:ns[i]? with
           |none=>
            have h3:ns.length<=i:=List.getElem?_eq_none_iff.1 hi;have h4:vs.length=ns.length*e:=by rw[hC.len,B,List.length_map]
            have hA:(ns.map (Value.int .u8))[i]?=none:=DU (by simpa using h3);rw[hA,DU];cases ns with
            |nil=>have h5:vs.length=0:=by simpa using h4
                  omega
            |cons n ns=>
             have:=X [.int .u8 n] (by rw[B];simp);have he1:e=1:=by simpa using this.symm
             rw[he1,J4]at h4;omega
           |some n=>
            have L:at2 xs i 0=some (.int .u8 n):=by simp[at2,B,hi]
            have he:e=1:=by
             have:=X [.int .u8 n] (by rw[B];exact D2.2 ⟨n,Ap hi,rfl⟩);simpa using this.symm
            subst he;obtain⟨r1,r2⟩:=hC.cell i 0 _ L;rw[J4,C3]at r1;rw[r1];cases r2 with
            |sc E _ _=>have:c i 0=.int .u8 n:=E;simp[this,hi]
          have O:len*e=len:=by
           cases ns with
           |nil=>subst B;simp at q1;subst q1;simp|cons n ns=>
            have:=X [.int .u8 n] (by rw[B];simp);simp at this;subst this;simp
          simp only[BN]at hload;rw[<-q1,O,hvs]at hload;rw[run_bytesToString w1 ad len cap ns hload,foldl_push,Z];simp
       obtain⟨g',hg⟩:=Ku (v:=.string ⟨bs.toArray⟩) h hd q rfl;exact⟨_,g',Q,hg⟩
      .cases y
     .cases E
    .cases ht
   .cases q
  .cases q
 .cases q
theorem AJJ(h:Inv F S g a w)(ks:List Nat):Inv F (S.IS ks) g a w:=by
 have H:∀r l',(S.IS ks).at r=some l'->∃l,S.at r=some l/\l'=(if ZR ks l then .t .top else l):=by
  intro r l' B;cases r with
  |tmp s c=>
   grind[St.at,St.IS,FE,LU,get,GW,Option.map_eq_some_iff]
  |cell b c=>
   grind[St.at,St.IS,DL,get,GW,Option.map_eq_some_iff]
 have G:∀r x,S.at r=some (.ow x)->(match r with|.tmp s _=>s∉ks|.cell _ _=>True)->(S.IS ks).at r=some (.ow x):=by
  intro r x q E;cases r with
  |tmp s c=>
   simp only[St.at,St.IS,FE,LU]at q E ⊢;simp only[E,if_false];cases y:get S.tm s with
   |none=>simp[y]at q|some e=>simp only[y]at q;simp[GW,q,ZR,AT.Bz]
  |cell b c=>
   simp only[St.at,St.IS,DL]at q E ⊢;cases y:get S.bx b with
   |none=>simp[y]at q|some e=>simp only[y]at q;simp[GW,q,ZR,AT.Bz]
 refine h.weaken ?_ ?_ ?_ rfl
 .intro s I j;simp only[St.IS,FE,LU,AO]at j;obtain⟨e,j,rfl⟩:=j;split at j
  .cases j
  .exact⟨e,j,rfl,FF _ _⟩
 .intro id ls' B;simp only[St.IS,DL,AO]at B;obtain⟨e,j,rfl⟩:=B;exact⟨e,j,FF _ _⟩
 grind[ZR]
end
section
variable{F:Fix}{S S' S1:St}{g g':Gh}{a a':Act}{w w':World}
theorem CN.set{e i:Nat}{xs:List (List T)}{cs:List T}{c:Nat->Nat->Value}{f:Nat->Nat->Blk}{vs us:List Value}{nf:Nat->Blk}(h:CN w e xs c f vs)(hi:i<xs.length)(hl:cs.length=e)
 (hu:us.length=e) (ho:∀(m:Nat) x,cs[m]?=some x->∃v,us[m]?=some v/\Own w x v (nf m)) (hd:∀m m' b,m<cs.length->m'<cs.length->m≠m'->nf m b->¬nf m' b)
 (hx:∀i j x m b,at2 xs i j=some x->m<cs.length->f i j b->¬nf m b) :
 CN w e (xs.set i cs) (fun H j=>if H=i then us.getD j undef else c H j) (fun H j=>if H=i then nf j else f H j) (Dr vs (i*e) us):=by
 have I:(i+1)*e<=xs.length*e:=Aj _ hi;rw[BX,DY]at I;have hg:=Gj vs (i*e) us (by rw[h.len,hu];exact I);have q:∀row∈xs.set i cs,row.length=e:=by
  intro row Z;rcases List.mem_or_eq_of_mem_set Z with Z|rfl
  .exact h.row row Z
  .exact hl
 refine⟨by rw[OG,h.len,List.length_set],q,?_,?_⟩
 .intro H j x E;have hj:j<e:=OT E q;rw[bj hi]at E;rw[hg];by_cases G:H=i
  .subst G;rw[AX rfl]at E;obtain⟨v,hv,hO⟩:=ho j x E;simp only[if_true];rw[AX (by omega),show H*e+j-H*e=j from by omega,hv];refine⟨by simp[List.getD,hv],?_⟩;have:us.getD j undef=v:=by simp[List.getD,hv]
   rw[this];exact hO
  .rw[AU G]at E;simp only[AU G];obtain⟨q1,q2⟩:=h.cell H j x E;refine⟨?_,q2⟩;rw[AU]
   .exact q1
   .intro hh;rcases Nat.lt_or_gt_of_ne G with Y|X
    .have:(H+1)*e<=i*e:=Aj _ Y;rw[BX,DY]at this;omega
    .have:(i+1)*e<=H*e:=Aj _ X;rw[BX,DY]at this;omega
 .intro i1 j1 x1 i2 j2 x2 y B O b;have hj1:j1<e:=OT y q;have hj2:j2<e:=OT B q;rw[bj hi]at y B;by_cases G:i1=i<;>by_cases J:i2=i
  .simp only[AX G,AX J];exact hd j1 j2 b (by omega) (by omega) (O (G.trans J.symm))
  .rw[AU J]at B;simp only[AX G,AU J];exact fun Q L=>hx _ _ _ j1 b B (by omega) L Q
  .rw[AU G]at y;simp only[AU G,AX J];exact fun Q L=>hx _ _ _ j2 b y (by omega) Q L
  .rw[AU G]at y;rw[AU J]at B;simp only[AU G,AU J];exact h.dis _ _ _ _ _ _ y B O b
theorem AV4{e n:Nat}:∀(ps:List (Nat×Operand)) (qs:List (Nat×Opd)) (S S':St) (g:Gh) (xs ys:List (List T)) (c:Nat->Nat->Value) (f:Nat->Nat->Blk) (cells:Array Value),Inv F S g a w->T5 ps qs=true ->
 (∀p∈QK ps qs,Mt F.A F.P p.1 p.2)->bsK e n S xs qs=some (S',ys)->xs.length=n->CN w e xs c f cells.toList->(∀i j x b,at2 xs i j=some x->f i j b->EA F S g b) ->
  ∃g2,Iu F S S' g g2 a w/\ys.length=n/\∃c' f' cells',Instr.fill (fun i=>some (i*e,e)) cells (ps.map fun p=>(p.1,a.eval p.2))=some cells'/\CN w e ys c' f' cells'.toList/\∀i j x b,at2 ys i j=some x->f' i j b->EA F S' g2 b
 | [],qs,S,S',g,xs,ys,c,f,cells,h,G,_,B,hn,hC,J=>by
  cases qs<;>simp[T5]at G;simp only[bsK,AD,A0]at B;obtain⟨rfl,rfl⟩:=B;exact⟨g,Rg.toG ⟨h,fun _ _ h=>h,fun _ h=>h,rfl⟩,hn,c,f,cells,rfl,hC,J⟩
 |(i,o)::ps,qs,S,S',g,xs,ys,c,f,cells,h,G,hm,B,hn,hC,J=>by
  match qs,G with
  |(i',x)::qs,G=>
   simp only[T5,AF,beq_iff_eq]at G;obtain⟨⟨rfl,ho⟩,G⟩:=G;simp only[bsK]at B;split at B
   .rename_i en hen;split at B
    .rename_i hc;obtain⟨c1,c2,c3⟩:=hc;split at B
     .rename_i S1 cs hown;obtain⟨vs,h1,h2,h3,h4⟩:=OA h hen ho fun p I=>hm p (by simp[QK,I])
      obtain⟨g1,htaken,nf,hT,hnf⟩:=Xk h h3 h2 (by
       intro c l J;obtain⟨u,hu,Y⟩:=h4 c l J;exact⟨u,hu,fun _ _ _=>Y,fun _=>Y⟩) hown
      obtain⟨t1,t2,t3,t4,t5,t6⟩:=hT;have Z:∀v∈vs,v.oneCell'=true:=by
       intro v hv;obtain⟨c,hc⟩:=Bh hv;have hlt:c<cs.length:=by rw[<-t1];exact(AP.1 hc).1
       obtain⟨v',hv',ho⟩:=t2 c cs[c] (by simp[hlt]);rw[hc]at hv';cases hv';exact ho.one
      have O:=Zg c2 h2 Z;have hsz:(a.eval o).cells.size=e:=by rw[h1,<-Bf,O,h2,c1]
      have Q:cs.length=e:=by rw[<-t1,h2,c1]
      have E:=hC.set (nf:=nf) (us:=vs) (by omega:i<xs.length) Q (by omega) t2 t6 (by
       intro i' L x' m b y hm' hb1 hb2;obtain⟨_,r,_,_,hr,hb3⟩:=hnf m b hm' hb2;exact(J i' L x' b y hb1).2.1 r hr hb3)
      have hfold:((a.eval o).cells.zipIdx.foldl (fun cs (p:Value×Nat)=>cs.setIfInBounds (i*e+p.2) p.1) cells).toList=Dr cells.toList (i*e) vs:=by
       rw[<-Array.foldl_toList,Array.toList_zipIdx,h1,O];exact XM _ (i*e) 0 cells
      rw[<-hfold]at E;obtain⟨g2,r1,r2,c',f',cells',hfill,r3,r4⟩:=AV4 ps qs S1 S' g1 _ ys _ _ _ htaken.inv G (fun p I=>hm p (by simp[QK,I])) B (by simpa using hn) E (by
       intro i' L x' b y q;have hj:L<e:=OT y E.row;rw[bj (by omega)]at y;by_cases H:i'=i
       .simp only[AX H]at q;exact⟨t3 L b (by omega) q,fun r hr=>t4 L r b (by omega) hr q,fun id hid hbe=>t5 L id (by omega) hid (hbe▸q)⟩
       .rw[AU H]at y;simp only[AU H]at q;exact(J _ _ _ b y q).tg htaken)
      refine⟨g2,htaken.trans r1,r2,c',f',cells',?_,r3,r4⟩;have hcell:cells.size=xs.length*e:=by rw[<-Bf];exact hC.len
      have X:(i+1)*e<=xs.length*e:=Aj _ (by omega);rw[BX,DY]at X;simp only[AJ,Instr.fill];rw[AU (by simp[hsz];omega)];exact hfill
     .cases B
    .cases B
   .cases B
theorem AFv{P:Program}{t el:TypeId}{i:TypeInfo}{z:Value}{n:Nat}{parts:Array (Nat×Value)}{cells':Array Value}(q:P.underlying t=some (.slice el))(hi:P.info? el=some i)(y:i.zero=some z)(B:n*i.size<=16777216)
 (hfill:Instr.fill (fun k=>some (k*i.size,i.size)) (madeCells z.cells (n*i.size)) parts.toList=some cells') :
 (Instr.buildSlice t n parts).run P w=.ok (.slice (some ⟨w.heap.size,0,none⟩) n n) (World.push w (.cells cells' el (0,0))):=by
 have c:=G9 (P:=P) (w:=w) hi;have hlim:¬(n*i.size>2 ^ 24):=by omega
 unfold Instr.buildSlice;unfold madeCells at hfill;have j:(zeroValue el).run P w=.ok z w:=by simp[zeroValue,typeInfo,hi,y,go_sem]
 have e:∀f:Nat->Value,Array.map f (Array.range 0)=#[]:=fun f=>by simp
 generalize Value.cells=C at hfill ⊢;by_cases h:n*i.size=0
 .rw[h,e]at hfill;simp only[Ak,run_underlying q,c,h,Ao,e,hfill,if_true,Az,newRow];simp[hfill,e,go_sem];rfl
 .simp only[Ak,run_underlying q,c,AU hlim,AU h,j,Ao,hfill,Az,newRow];simp[hfill,go_sem];rfl
theorem Zm(h:Inv F S g a w){d n:Nat}{t el:TypeId}{y:List T}{ps:Array (Nat×Operand)}{qs:List (Nat×Opd)}(hd:d<F.N)(e:ev (.CB d n y qs) S=some S')(hu:F.P.underlying t=some (.slice el))(he:Fo F.P t y.length=true)
 (hz:ACl F.P el y=true) (hp:T5 ps.toList qs=true) (L:∀p∈QK ps.toList qs,Mt F.A F.P p.1 p.2) :
 ∃v w' g',(Instr.buildSlice t n (ps.map fun (i,x)=>(i,a.eval x))).run F.P w=.ok v w'/\Inv F S' g' (a.put (some d) v) w'/\∀b,b<w.heap.size->w'.heap[b]?=w.heap[b]?:=by
 simp only[ev]at e;split at e
 .rename_i hlim;split at e
  .rename_i S1 ys O;obtain⟨i,z,hi,Y,G,J,X⟩:=mG (w:=w) hz;have hC0:CN w y.length (rowsOf n y) (fun i j=>((madeCells z.cells (n*y.length))[i*y.length+j]?).getD undef) (fun _ _ _=>False) (madeCells z.cells (n*y.length)).toList:=by
    refine⟨by simp[madeCells,rowsOf],by intro row Z;simp[rowsOf]at Z;rw[Z.2],?_,by simp⟩;intro i j x q;obtain⟨hi,hj⟩:=dL q;obtain⟨v,Q,hs⟩:=X j x hj;have L:=Uj (n:=n) Q hi;rw[J]at L;rw[DT,L];exact⟨rfl,hs⟩
   obtain⟨g2,hT,I,c',f',cells',hfill,hC,hl⟩:=AV4 ps.toList qs S S1 g _ ys _ _ (madeCells z.cells (n*y.length)) h hp L O (by simp[rowsOf]) hC0 (fun _ _ _ _ _ c=>c.elim);have H:=AFv (P:=F.P) (w:=w) (n:=n) (parts:=ps.map fun p=>(p.1,a.eval p.2)) (cells':=cells') hu hi Y (by rw[G];exact hlim) (by rw[G,Array.toList_map];exact hfill);have B:∀i j x b,at2 ys i j=some x->f' i j b->b<w.heap.size:=fun i j x b q c=>Own.lt (hC.cell i j x q).2 b c
   have hO:=hC.own (w':=World.push w (.cells cells' el (0,0))) (blk:=w.heap.size) (off:=0) (cap:=n) (arr:=cells') (E:=el) (.of MP) (by omega) (by
    have:=hC.len;rw[I,Bf]at this;omega) (by intro k v hk;rw[Au];simpa using hk) (fun i j x q c=>absurd (B i j x _ q c) (by omega)) (fun i j x b q c=>E9 (B i j x b q c))
   obtain⟨g',hG⟩:=hT.inv.cY hd e Still.push (fun b c _=>E9 c) hO (by
    rintro b (rfl|⟨i,j,x,q,c⟩)
    .exact .inl (Ad _)
    .exact .inr (hl i j x b q c))
   rw[I]at hG;exact⟨_,_,g',H,hG,fun b c=>E9 c⟩
  .cases e
 .cases e
theorem Ni{xs:List (List T)}{n i j:Nat}{x:T}(h:at2 (xs.take n) i j=some x):i<n/\at2 xs i j=some x:=by
 have:=OU (lo:=0) (xs:=xs) (n:=n) (i:=i) (j:=j) (by simpa using h);simpa using this
theorem PW{xs:List (List T)}{n i j:Nat}{x:T}(h:at2 (xs.drop n) i j=some x):at2 xs (n+i) j=some x:=by
 grind[at2]
theorem AGG{P:Program}{B:Blk}{e n:Nat}{ys:List (List T)}{v:Value}(hV:View w B (.sl e ys) v)(Y:Gm ys=true)(Z:n<=ys.length) :
 ∃c vs,CN w e (ys.take n) c (fun _ _ _=>False) vs/\(∀w',(BZ v).run P w'=.ok ys.length w')/\(BN e n v).run P w=.ok vs.toArray w:=by
 cases hV with
 |sc h=>exact h.elim|nl=>
  refine⟨fun _ _=>undef,[],⟨by simp,by simp,by simp[at2],by simp[at2]⟩,fun w'=>by simp[BZ],run_firstCells_none ..⟩
 |@sl _ _ a len cap c L h2 O Q h5 X=>
  subst L;obtain⟨vs,hC⟩:∃vs,CN w e (ys.take n) c (fun _ _ _=>False) vs:=⟨_,CN.read (fun row hr=>O row (List.mem_of_mem_take hr)) (fun i j x y=>Nd (X i j x (Ni y).2) (Qp Y (Ni y).2)) (by simp)⟩;refine⟨c,_,hC,fun w'=>by simp[BZ],?_⟩;refine run_firstCells_some (P:=P) w e n a _ cap _ (by rw[hC.len,List.length_take,Dp Z]) ?_;intro k u J;have q:k<(ys.take n).length*e:=by rw[<-hC.len];exact(AP.1 J).1
  have I:0<e:=by
   rcases JQ e with E|E
   .subst E;simp at q
   .exact E
  obtain⟨x,y⟩:=Nh hC.row ((Cp I).2 q) (ER k I);obtain⟨q1,_⟩:=hC.cell _ _ _ y;rw[F4,GC,J]at q1;cases q1;have H:=(Ni y).2;have G:ys≠[]:=by rintro rfl;simp[at2]at H
  obtain⟨hs,_⟩:=Q G;obtain⟨blk,off,sp⟩:=a
  grind[Nat.add_assoc,Nat.mul_comm,Nat.div_add_mod,Gz]
theorem AFb(h:Inv F S g a w){d e:Nat}{t u ty:TypeId}{oa ob:Operand}{x y:Opd}(hd:d<F.N)(q:ev (.cpy d e x y) S=some S')(hoa:B9 oa x=true)(hob:B9 ob y=true)
 (hma:∀p∈CF oa x,Mt F.A F.P p.1 p.2) (hmb:∀p∈CF ob y,Mt F.A F.P p.1 p.2) (he:Fo F.P t e=true) :
 ∃v w' g',(Ce #[t,u] ty #[a.eval oa,a.eval ob]).run F.P w=.ok v w'/\Inv F S' g' (a.put (some d) v) w'/\∀b,b<w.heap.size->(∀l r,S.one x=some l->l.Bz=some r->¬g.fp r b)->w'.heap[b]?=w.heap[b]?:=by
 obtain⟨el,ti,hu,hti,hsz,_,X⟩:=Ge he;simp only[ev]at q;split at q
 .rename_i r ly J hy;split at q
  .rename_i B xs ys Y hys;split at q
   .rename_i hc;obtain⟨rfl,hwide,hfy,hfx,hne0⟩:=hc;obtain⟨hlx,_⟩:=Hp h J hoa hma;obtain⟨hly,_⟩:=Hp h hy hob hmb;obtain⟨x0,u0,q1,q2,q3⟩:=hlx;rw[Y]at q1;cases q1;have hv:a.eval oa=u0:=q3;obtain⟨u',hu',Q⟩:=h.Cq r _ Y;rw[q2]at hu';cases hu';have hfp:=Q;cases Q with
    |sc Z _ _=>exact Z.elim|nl=>simp at hne0|@sl _ _ blk off len cap arr E _ c f k1 k2 k3 k4 k5 k6 k7 k8 k9 k10=>
     subst k1;have hsrc:∃c' vs,CN w B (ys.take (min ys.length xs.length)) c' (fun _ _ _=>False) vs/\(∀w1,(BZ (a.eval ob)).run F.P w1=.ok ys.length w1)/\(BN B (min ys.length xs.length) (a.eval ob)).run F.P w=.ok vs.toArray w:=by
      rcases U6 h hly hys with ⟨rfl,hv⟩|⟨e2,hV,hw2⟩
      .rw[hv];exact⟨fun _ _=>undef,[],by simpa using (CN.nil (w:=w) (e:=B)),fun _=>by simp[BZ],by simp[BN]⟩
      .have:=hw2 _ hwide;subst this;exact AGG hV hfy (Nat.min_le_left _ _)
     obtain⟨c',vs,hC,hlen,hfirst⟩:=hsrc;generalize hn:min ys.length xs.length=n at *;have hnx:n<=xs.length:=by omega
     have hny:n<=ys.length:=by omega
     have hnl:(ys.take n).length=n:=by simp;omega
     have hvl:vs.length=n*B:=by rw[hC.len,hnl]
     obtain⟨us,hD⟩:∃us,CN w B (xs.drop n) (fun i j=>c (n+i) j) (fun _ _ _=>False) us:=⟨_,CN.read (fun row Y=>k3 row (List.mem_of_mem_drop Y)) (fun i j x J=>Nd (k7 _ _ _ (PW J)).view (Qp hfx (PW J))) (by simp)⟩;have hA:=hC.app hD (by simp);have hmul:n*B<=xs.length*B:=Aj _ hnx;have hmul2:xs.length*B<=cap*B:=Aj _ k2;have I:off+vs.length<=arr.size:=by omega
     have hst:=FX (P:=F.P) (o:=off) k4 I hC.one;have hzl:(ys.take n++xs.drop n).length=xs.length:=by simp;omega
     have hO:=hA.own (cap:=cap) (off:=off) (w':=w.setRow blk (arr.toList.take off++vs++arr.toList.drop (off+vs.length)).toArray) (k4.set (by simp;omega)) (by rw[hzl];exact k2) (by simp;omega) (by
      intro k v hk;have O:=Gj arr.toList off vs (by simpa using I) (off+k);rw[Na _ _ _ (by simpa using I)]at O;simp only[BS];rw[O];by_cases hk':k<vs.length
      .rw[BD hk']at hk;rw[AX (by omega),<-hk];congr 1;omega
      .rw[A7 (by omega)]at hk;rw[AU (by omega)];have hlt:k-vs.length<(xs.drop n).length*B:=by rw[<-hD.len];exact(AP.1 hk).1
       obtain⟨x,J⟩:=Nh hD.row ((Cp X).2 hlt) (ER (k-vs.length) X);obtain⟨p1,_⟩:=hD.cell _ _ _ J;rw[F4,GC,hk]at p1;cases p1;have:=k6 _ _ _ (PW J);rw[DT,<-this];have e1:=GC (k-vs.length) B;have e2:(n+(k-vs.length) / B)*B=n*B+B*((k-vs.length) / B):=by rw[BX,F4 ((k-vs.length) / B)]
       congr 1;omega) (fun i j x J H=>by simp at H) (fun i j x b J H=>by simp at H)
     have hO':=hO.congr (S':=fun b=>b=blk) (by intro b;simp);have G:g.fp r blk:=(k10 blk).2 (.inl rfl);rw[hzl]at hO';obtain⟨g1,hg1⟩:=h.ATJ (ys:=ys.take n++xs.drop n) (fp':=fun b=>b=blk) Y q2 hzl (w':=w.setRow blk (arr.toList.take off++vs++arr.toList.drop (off+vs.length)).toArray)
      Still.setRow (fun b _ H=>setRow_other (by rintro rfl;exact H G)) hO'
      (fun b H=>by subst H;exact h.Gu r ⟨_,Y⟩ _ G) (fun r' hr' hne b H=>by subst H;exact h.dis r r' ⟨_,Y⟩ hr' (Ne.symm hne) _ G) (fun id hid H=>h.FR r id ⟨_,Y⟩ hid (by rw[H];exact G))
     have htk:ys.take xs.length++xs.drop ys.length=ys.take n++xs.drop n:=by
      rw[<-hn];rcases Nat.le_total ys.length xs.length with Z|Z
      .rw[Dp Z,BU Z,BU (Ad _)]
      .rw[Nat.min_eq_right Z,A5 Z,A5 (Ad _)]
     rw[htk]at q;obtain⟨g2,hg2⟩:=Ku (v:=.int .i64 (n:Nat)) hg1 hd q rfl;refine⟨_,_,g2,?_,hg2,fun b _ H=>setRow_other (by rintro rfl;exact H _ r J rfl G)⟩;rw[hv];unfold Ce;have hs2:=G9 (P:=F.P) (w:=w) hti;rw[hsz]at hs2;have hmin:Nat.min ys.length xs.length=n:=hn;have hl1:=hlen w;simp only[A3,AH,AN,Au,Nat.reduceAdd,BS,AM,CA];generalize a.eval ob=vb at hl1 hfirst ⊢;generalize BZ=L at hl1 ⊢;generalize BN=FC at hfirst ⊢;simp[run_underlying hu,hl1,hmin,hs2,hfirst,hst,goInt,go_sem]
   .cases q
  .cases q
 .cases q
end
section
variable{F:Fix}{S S':St}{g g':Gh}{a a':Act}{w w':World}
theorem Inv.AYf(h:Inv F S g a w){r:CD}{xs ys:List (Int×Int)}{u:Value}{fp':Blk}(hx:S.at r=some (.ow (.mp xs)))(hu:g.rv r=some u)
 (hs:Still w w') (hw:∀b,b<w.heap.size->¬g.fp r b->w'.heap[b]?=w.heap[b]?) (hown:Own w' (.mp ys) u fp') (hK:∀b,fp' b->¬F.K b)
 (hdis:∀r',CG S r'->r'≠r->∀b,fp' b->¬g.fp r' b) (hB:∀id,(get S.bx id).isSome->¬fp' (g.β id)) :
 Inv F ((S.Bi r (.ow (.mp ys))).kill (FW r)) { g with fp:=fun r'=>if r'=r then fp' else g.fp r'} a w':=by
 have hat:∀r',((S.Bi r (.ow (.mp ys))).kill (FW r)).at r'=(if r'=r then some (.ow (.mp ys)) else S.at r').map fun l=>if FW r l then .t .top else l:=by
  intro r';rw[Ha,Ei hx]
 have O:∀r',CG ((S.Bi r (.ow (.mp ys))).kill (FW r)) r'->CG S r':=by
  rintro r' ⟨x,hx'⟩;rw[hat,AO]at hx';obtain⟨l,G,H⟩:=hx';split at H
  .cases H
  .subst H;split at G
   .subst_vars;exact⟨_,hx⟩
   .exact⟨x,G⟩
 have hsome:∀id,(get ((S.Bi r (.ow (.mp ys))).kill (FW r)).bx id).isSome->(get S.bx id).isSome:=by
  intro id Y;simp only[St.kill,DL,Option.isSome_map]at Y
  rwa[Dd]at Y
 have hKw:∀b,F.K b->w'.heap[b]?=w.heap[b]?:=fun b c=>hw b (BR (h.rlt b c) h.size) fun hf=>h.Gu r ⟨_,hx⟩ b hf c
 have hfw:∀r',CG S r'->r'≠r->∀b,g.fp r' b->w'.heap[b]?=w.heap[b]?:=by
  rintro r' ⟨x,hx'⟩ B b c;obtain⟨v,_,J⟩:=h.Cq r' _ hx';exact hw b (Own.lt J b c) (h.dis r' r ⟨x,hx'⟩ ⟨_,hx⟩ B b c)
 let g':Gh:={ g with fp:=fun r'=>if r'=r then fp' else g.fp r'}
 have I:g'.fp r=fp':=by simp[g']
 have y:∀r',r'≠r->g'.fp r'=g.fp r':=fun r' B=>by simp[g',B]
 have tr:∀{fp:Blk} {l:AT} {v:Value},FW r l=false->(∀x,l≠.ow x)->Bt F S g w fp l v->Bt F ((S.Bi r (.ow (.mp ys))).kill (FW r)) g' w' fp l v:=by
  intro fp l v hin Z J;by_cases hr:l.Bz=some r
  .match l,J with
   |.al e sub,⟨x,u1,q,L,h3⟩=>
    cases hr;rw[hx]at q;cases q;refine⟨.mp ys,u1,by rw[hat,AX rfl];rfl,L,?_⟩;cases sub with
    |none=>exact h3|some p=>exact h3
   |.ep e i j,⟨X,xs1,blk,off,len,cap,q,L,h3,h4⟩=>
    cases hr;rw[hx]at q;cases q
   |.vw (.own e _) X xs1,_=>cases hr;simp[FW]at hin
   |.vp (.own e _) cs1,_=>cases hr;simp[FW]at hin
  .refine Bt.any Z ((Bt.any (fp':=fun _=>False) Z J).tr ?_ (fun _ _=>rfl) (fun _ h=>h.elim) hKw);intro e hr1;obtain⟨x,hx1⟩:=J.alive hr1;have B:e≠r:=by rintro rfl;exact hr hr1
   refine⟨?_,rfl,fun b c=>by rw[y e B];exact c,hfw e ⟨x,hx1⟩ B⟩;rw[hat,AU B,hx1];rfl
 show Inv F _ g' a w';refine { Cq:=?_,tms:=?_,bxs:=?_,dis:=?_,FR:=?_,Gu:=?_,GM:=fun id id' q L=>h.GM id id' (hsome id q) (hsome id' L),bxR:=fun id q=>h.bxR id (hsome id q),FV:=fun b c=>(hKw b c).trans (h.FV b c),rlt:=h.rlt,still:=h.still.trans hs,defs:=h.defs,tsz:=h.tsz,pin:=?_}
 .intro r' l hl;rw[hat,AO]at hl;obtain⟨l0,G,H⟩:=hl;by_cases hr:r'=r
  .subst hr;rw[AX rfl]at G;cases G;simp only[FW,if_false,BM]at H;subst H;exact⟨u,hu,by rw[I];exact hown⟩
  .rw[AU hr]at G;obtain⟨v,hv,J⟩:=h.Cq r' l0 G;refine⟨v,hv,?_⟩;split at H
   .subst H;exact Bt.top
   .rename_i hin;subst H;by_cases how:∃x,l0=.ow x
    .obtain⟨x,rfl⟩:=how;rw[y r' hr];exact Own.frame J (hfw r' ⟨x,G⟩ hr)
    .have Z:∀x,l0≠.ow x:=fun x hx=>how ⟨x,hx⟩
     exact Bt.any Z (tr (by simpa using hin) Z J)
 .intro s e' he;simp only[St.kill,FE,AO]at he;obtain⟨X,he1,rfl⟩:=he;obtain⟨e0,q,L,h3⟩:=Lk he1;obtain⟨p1,p2,p3⟩:=h.tms s e0 q;exact⟨p1,by rw[p2,L],by rw[p3,FF,h3]⟩
 .intro id ls' hls;simp only[St.kill,DL,AO]at hls;obtain⟨l1,G,rfl⟩:=hls;obtain⟨l0,q,L⟩:=Iz G;obtain⟨⟨E,hE⟩,p2⟩:=h.bxs id l0 q;refine⟨⟨E,(hw _ (A1.1 hE).1 fun hf=>h.FR r id ⟨_,hx⟩ (by simp[q]) hf).trans hE⟩,by rw[p2,FF,L]⟩
 .intro e r2 q L B b c Q;by_cases X:e=r
  .subst X;rw[I]at c;rw[y r2 (Ne.symm B)]at Q;exact hdis r2 (O r2 L) (Ne.symm B) b c Q
  .rw[y e X]at c;by_cases e2:r2=r
   .subst e2;rw[I]at Q;exact hdis e (O e q) X b Q c
   .rw[y r2 e2]at Q;exact h.dis e r2 (O e q) (O r2 L) B b c Q
 .intro e id q Y c;by_cases X:e=r
  .subst X;rw[I]at c;exact hB id (hsome id Y) c
  .rw[y e X]at c;exact h.FR e id (O e q) (hsome id Y) c
 .intro e q b c;by_cases X:e=r
  .subst X;rw[I]at c;exact hK b c
  .rw[y e X]at c;exact h.Gu e (O e q) b c
 .intro p hp;have hpp:p∈S.pin:=by
   have:((S.Bi r (.ow (.mp ys))).kill (FW r)).pin=S.pin:=G8
   rwa[this]at hp
  obtain⟨q,L⟩:=h.pin p hpp;exact⟨q,fun hs=>L (hsome p hs)⟩
theorem AKH{es:Array MapEntry}{ks:List (Int×Int)}(h:es.toList.map aZ=ks.map bD):es.size=ks.length:=by
 have:=congrArg List.length h;simpa using this
theorem Yz(n m:Int):∀{es:List MapEntry} {ks:List (Int×Int)} (i:Nat),es.map aZ=ks.map bD ->
 (Instr.findNow (.int .i64) (.int .i64 n) es i=some none/\Mh ks n=0/\Jf ks n m=ks++[(n,m)]) \/
 ∃j e,Instr.findNow (.int .i64) (.int .i64 n) es i=some (some (i+j,e.val))/\es[j]?=some e/\e.key=.int .i64 n/\e.val=.int .i64 (Mh ks n) /\
  (es.modify j fun e=>{ e with key:=.int .i64 n,val:=.int .i64 m}).map aZ=(Jf ks n m).map bD
 | [],[],i,h=>.inl ⟨rfl,rfl,rfl⟩|e::es,(k,v)::ks,i,h=>by
  simp only[AJ,Cc]at h;obtain⟨q,E⟩:=h;have G:e.key=.int .i64 k:=congrArg Prod.fst q;have J:e.val=.int .i64 v:=congrArg Prod.snd q;by_cases c:n=k
  .subst c;refine .inr ⟨0,e,?_,rfl,G,?_,?_⟩
   .simp[Instr.findNow,Instr.sameNow,G]
   .simp[Mh,J]
   .simp[Jf,E,aZ,bD]
  .have H:Instr.findNow (.int .i64) (.int .i64 n) (e::es) i=Instr.findNow (.int .i64) (.int .i64 n) es (i+1):=by
    grind[Instr.findNow,Instr.sameNow]
   rcases Yz n m (i+1) E with ⟨q1,y,B⟩|⟨j,I,q1,y,B,L,O⟩
   .exact .inl ⟨by rw[H,q1],by simp[Mh,c,y],by simp[Jf,c,B]⟩
   .refine .inr ⟨j+1,I,by rw[H,q1,show i+1+j=i+(j+1) by omega],by simpa using y,B,by simp[Mh,c,L],?_⟩;simp[Jf,c,O,q]
 | [],_::_,_,h=>by simp at h|_::_,[],_,h=>by simp at h
theorem Ze{P:Program}{t:TypeId}(h:ND P t=true):∃k e i,P.underlying t=some (.map k e)/\P.underlying k=some (.int .i64)/\P.info? e=some i/\i.zero=some (.int .i64 0):=by
 grind[ND,isInt]
theorem lG(h:Inv F S g a w){o:Operand}{x:Opd}{r:CD}{ks:List (Int×Int)}(c:S.P9 x=some (r,ks))(I:B9 o x=true)(H:∀p∈CF o x,Mt F.A F.P p.1 p.2) :
 ∃blk es clock,a.eval o=.map (some blk)/\S.at r=some (.ow (.mp ks))/\g.rv r=some (.map (some blk))/\w.heap[blk]?=some (.map es clock)/\es.toList.map aZ=ks.map bD/\g.fp r blk/\S.one x=some (.al r none):=by
 unfold St.P9 at c;split at c
 .rename_i X B;split at c
  .rename_i J q;cases c;obtain⟨G,_⟩:=Hp h B I H;obtain⟨Z,y,q1,L,O⟩:=G;rw[q]at q1;cases q1;have Q:a.eval o=y:=O;obtain⟨Y,j,e⟩:=h.Cq r _ q;rw[L]at j;cases j;have hO:Own w (.mp ks) y (g.fp r):=e;cases hO with
   |sc E _ _=>exact E.elim|mp hM hS=>
    obtain⟨es,clock,p1,p2⟩:=hM
    grind
  .cases c
 .cases c
theorem AFg(h:Inv F S g a w){d:Nat}{t:TypeId}(j:d<F.N)(c:ev (.mmk d) S=some S') :
 ∃v w' g',(Instr.makeMap t none).run F.P w=.ok v w'/\Inv F S' g' (a.put (some d) v) w'/\∀b,b<w.heap.size->w'.heap[b]?=w.heap[b]?:=by
 simp only[ev]at c;obtain⟨g',q⟩:=h.newRow (w':=World.push w (.map #[] 0)) (v:=.map (some w.heap.size)) (S0:=fun b=>b=w.heap.size) j c Still.push (fun b e=>E9 e)
  (.mp ⟨#[],0,MP,rfl⟩ fun b=>Iff.rfl) (fun b e=>.inl (by omega))
 exact⟨_,_,g',rfl,q,fun b e=>E9 e⟩
theorem wJ(h:Inv F S g a w){d:Nat}{t:TypeId}{om ok:Operand}{x k:Opd}(Q:d<F.N)(c:ev (.UK d x k) S=some S')(Z:ND F.P t=true)(E:B9 om x=true)(B:B9 ok k=true)
 (y:∀p∈CF om x,Mt F.A F.P p.1 p.2) (q:∀p∈CF ok k,Mt F.A F.P p.1 p.2) :
 ∃v g',(Instr.lookup t (a.eval om) (a.eval ok) false).run F.P w=.ok v w/\Inv F S' g' (a.put (some d) v) w:=by
 simp only[ev]at c;split at c
 .rename_i r ks n hx Y;obtain⟨blk,es,clock,L,e2,e3,H,O,e6,e7⟩:=lG h hx E y;have ek:a.eval ok=.int .i64 n:=QP h Y B q;obtain⟨kt,et,i,J,G,u3,u4⟩:=Ze Z;obtain⟨g',X⟩:=Ku (v:=.int .i64 (Mh ks n)) h Q c rfl;refine⟨_,g',?_,X⟩;rw[L,ek];have hz:(zeroValue et).run F.P w=.ok (.int .i64 0) w:=by simp[zeroValue,typeInfo,u3,u4,go_sem]
  have e:=fun b=>MapKept.run_checkKey (P:=F.P) (w:=w) G (show MapKept.IsKey (.int .i64) (.int .i64 n) from (rfl:IntKind.i64=IntKind.i64)) b 9999
  rcases Yz n 0 0 O with ⟨q1,I,q3⟩|⟨j,e',q1,I,q3,q4,q5⟩
  .simp[Instr.lookup,run_underlying J,MapKept.run_getObj_map H,e,MapKept.run_findKey G q1,hz,I,Ao,go_sem]
  .simp[Instr.lookup,run_underlying J,MapKept.run_getObj_map H,e,MapKept.run_findKey G q1,q4,Ao,go_sem]
 .cases c
theorem wS(h:Inv F S g a w){d:Nat}{t ty:TypeId}{o:Operand}{x:Opd}(y:d<F.N)(c:ev (.UL d x) S=some S')(H:ND F.P t=true)(G:B9 o x=true)(E:∀p∈CF o x,Mt F.A F.P p.1 p.2) :
 ∃v g',(Builtin.len_ #[t] ty #[a.eval o]).run F.P w=.ok v w/\Inv F S' g' (a.put (some d) v) w:=by
 simp only[ev]at c;split at c
 .rename_i r ks I;obtain⟨blk,es,clock,e,L,O,j,q,Q,X⟩:=lG h I G E;obtain⟨kt,et,i,J,Y,Z,u4⟩:=Ze H;obtain⟨g',B⟩:=Ku (v:=.int .i64 (ks.length:Nat)) h y c rfl;refine⟨_,g',?_,B⟩;rw[e,run_len_map (w:=w) t ty blk es clock (by simp[Program.mapKeyOf,Program.mapElemOf,J]) j,AKH q];rfl
 .cases c
theorem Still.AXd{b:Nat}{es e:Array MapEntry}{c j:Nat}(h:w.heap[b]?=some (.map es c)):Still w { w with heap:=w.heap.setIfInBounds b (.map e j)}:=by
 refine⟨by simp,rfl,rfl,fun a _=>?_⟩
 grind[World.frozen?,MapKept.heap_set]
theorem wT(h:Inv F S g a w){t:TypeId}{om ok ov:Operand}{x k v:Opd}(q:ev (.TF x k v) S=some S')(ht:ND F.P t=true)(hom:B9 om x=true)(hok:B9 ok k=true)(hov:B9 ov v=true)
 (X:∀p∈CF om x,Mt F.A F.P p.1 p.2) (Q:∀p∈CF ok k,Mt F.A F.P p.1 p.2) (Y:∀p∈CF ov v,Mt F.A F.P p.1 p.2) :
 ∃w' g',(Instr.mapUpdate t (a.eval om) (a.eval ok) (a.eval ov)).run F.P w=.ok () w'/\Inv F S' g' a w'/\∀b,b<w.heap.size->(∀l r,S.one x=some l->l.Bz=some r->¬g.fp r b)->w'.heap[b]?=w.heap[b]?:=by
 simp only[ev]at q;split at q
 .rename_i r ks n m hx hk hv;obtain⟨blk,es,clock,e1,I,e3,y,e5,B,e7⟩:=lG h hx hom X;have ek:a.eval ok=.int .i64 n:=QP h hk hok Q;have evv:a.eval ov=.int .i64 m:=QP h hv hov Y;obtain⟨kt,et,i,u1,u2,u3,u4⟩:=Ze ht;cases q;have E:=fun b=>MapKept.run_checkKey (P:=F.P) (w:=w) u2 (show MapKept.IsKey (.int .i64) (.int .i64 n) from (rfl:IntKind.i64=IntKind.i64)) b 9999
  have main:∃c clock',(Instr.mapUpdate t (a.eval om) (a.eval ok) (a.eval ov)).run F.P w=.ok () { w with heap:=w.heap.setIfInBounds blk (.map c clock')}/\c.toList.map aZ=(Jf ks n m).map bD:=by
   rw[e1,ek,evv];rcases Yz n m 0 e5 with ⟨q1,q2,q3⟩|⟨j,e',q1,q2,q3,q4,q5⟩
   .refine⟨_,_,by simp[Instr.mapUpdate,run_underlying u1,MapKept.run_getObj_map y,E,MapKept.run_findKey u2 q1,MapKept.run_setObj_map _ y,Ao];rfl,?_⟩;rw[q3];simp[e5,aZ,bD]
   .have hj:es[j]?=some e':=by simpa using q2
    have O:(MapKept.IsKey (.int .i64) (.int .i64 n)):=(rfl:IntKind.i64=IntKind.i64);refine⟨_,_,by simp[Instr.mapUpdate,run_underlying u1,MapKept.run_getObj_map y,E,MapKept.run_findKey u2 q1,hj,q3,MapKept.run_keyThatStays O,MapKept.run_setObj_map _ y,Ao];rfl,?_⟩;simpa using q5
  obtain⟨c,clock',G,J⟩:=main;obtain⟨hs1,H⟩:=MapKept.heap_set (o':=Obj.map c clock') y;refine⟨_,_,G,h.AYf I e3 (fp':=fun b=>b=blk) (Still.AXd y) (fun b _ e=>H b (by rintro rfl;exact e B)) (.mp ⟨c,clock',hs1,J⟩ fun b=>Iff.rfl)
   (fun b e=>by subst e;exact h.Gu r ⟨_,I⟩ _ B) (fun r' hr' Z b e=>by subst e;exact h.dis r r' ⟨_,I⟩ hr' (Ne.symm Z) _ B) (fun id L e=>h.FR r id ⟨_,I⟩ L (by rw[e];exact B)),fun b _ e=>H b (by rintro rfl;exact e _ r e7 rfl B)⟩
 .cases q
end
section
variable{F:Fix}{S S' S1:St}{g g':Gh}{a a':Act}{w w':World}
def ATf:Op->Option Operand|.load _ a=>some a|.convert _ _ a=>some a|_=>none
def Tch(S:St)(g:Gh)(x:XOp)(b:Nat):Prop:=
 match x with
 |.st _ p _=>AXv S g p b|x=>match x.wr with|some y=>∃l r,S.one y=some l/\l.Bz=some r/\g.fp r b|none=>False
def Did(F:Fix)(S S':St)(g:Gh)(a:Act)(o:Oper)(w:World)(x:XOp):Prop:=
 match Mg x with
 |.pure=>∃v g',(∀w1,(execOp a.eval o).run F.P w1=.ok (.value v) w1)/\Inv F S' g' (a.put o.dst v) w|.ld=>∃v g' y,ATf o.op=some y/\(∀w1,AMk (a.eval y) w w1->(execOp a.eval o).run F.P w1=.ok (.value v) w1)/\Inv F S' g' (a.put o.dst v) w|.eff=>∃n v w' g',(execOp a.eval o).run F.P w=.ok n w'/\(n=.value v\/(n=.skip/\v=undef))/\Inv F S' g' (a.put o.dst v) w'/\∀b,b<w.heap.size->¬Tch S g x b->w'.heap[b]?=w.heap[b]?
theorem DH{N:Nat}{x:XOp}{dst:Option Nat}{d:Nat}(h:(match x.jm,dst with|some d,some c=>d==c&&vQ d N|none,none=>true|_,_=>false)=true)(e:x.jm=some d):dst=some d/\d<N:=by
 grind[vQ]
theorem AWN(h:Inv F S g a w){o:Oper}{x:XOp}(j:VQ F.P F.N o.dst o.op x=true)(J:∀p∈EC o.op x,Mt F.A F.P p.1 p.2)(B:ev x S=some S'):Did F S S' g a o w x:=by
 obtain⟨dst,op,ty,pos,after,guard⟩:=o;dsimp only at j J;simp only[VQ,AF]at j;obtain⟨q,j⟩:=j;split at j
 .rename_i y d b;obtain⟨rfl,I⟩:=DH q rfl;obtain⟨g',G⟩:=AJL h I B j J;exact⟨a.eval y,g',fun w1=>by simp[execOp,Az],G⟩
 .rename_i y d b;obtain⟨rfl,I⟩:=DH q rfl;obtain⟨g',G⟩:=ARs h I B j J;exact⟨a.eval y,g',fun w1=>by simp[execOp,Az],G⟩
 .rename_i y d b;obtain⟨rfl,I⟩:=DH q rfl;obtain⟨g',G⟩:=AJL h I B j J;exact⟨a.eval y,g',fun w1=>by simp[execOp,Az],G⟩
 .rename_i c y z d c' y' z';obtain⟨rfl,I⟩:=DH q rfl;simp only[AF]at j;simp only[EC,CO]at J;obtain⟨t,g',ht,G⟩:=wV h I B j.1.1 j.1.2 j.2 (fun p E=>J p (by simp[E])) (fun p E=>J p (by simp[E])) (fun p E=>J p (by simp[E]));exact⟨if t then a.eval y else a.eval z,g',fun w1=>by simp only[execOp,Ak,ht,asBool,Az,Ao],G⟩
 .rename_i t d zs;obtain⟨rfl,I⟩:=DH q rfl;obtain⟨v,w',g',H,G,Q⟩:=lS h I B j;exact⟨.value v,v,w',g',by simp only[execOp,Ak,H,Ao,Az],.inl rfl,G,fun b Y _=>Q b Y⟩
 .rename_i t y d b;obtain⟨rfl,I⟩:=DH q rfl;obtain⟨v,w',g',H,G,Q⟩:=AFZ (t:=t) h I B j J;exact⟨.value v,v,w',g',by simp only[execOp,Ak,H,Ao,Az],.inl rfl,G,fun b Y _=>Q b Y⟩
 .rename_i t ps d zs qs;obtain⟨rfl,I⟩:=DH q rfl;simp only[AF]at j;obtain⟨L,O⟩:=j;split at O
  .rename_i fs hu;simp only[AF]at O;obtain⟨v,g',H,G⟩:=lT h I B L hu O.1 O.2 J;exact⟨v,g',fun w1=>by simp only[execOp,Ak,H,Ao,Az],G⟩
  .cases O
 .rename_i t n ps d n' zs qs;obtain⟨rfl,I⟩:=DH q rfl;simp only[AF,beq_iff_eq]at j;obtain⟨⟨⟨rfl,L⟩,O⟩,X⟩:=j;split at O
  .rename_i el hu;obtain⟨v,w',g',H,G,Q⟩:=Zm h I B hu L O X J;exact⟨.value v,v,w',g',by simp only[execOp,Ak,H,Ao,Az],.inl rfl,G,fun b Y _=>Q b Y⟩
  .cases O
 .rename_i t y d n b;obtain⟨rfl,I⟩:=DH q rfl;simp only[AF]at j;obtain⟨v,g',H,G⟩:=ARw h I B j.1 j.2 J;exact⟨v,g',y,rfl,fun w1 hw1=>by have H:=H w1 hw1;simp only[execOp,Ak,H,Ao,Az],G⟩
 .rename_i t y z n y' z';have hdn:dst=none:=by
   cases dst with
   |none=>rfl|some d=>simp[XOp.jm]at q
  subst hdn;simp only[AF]at j;obtain⟨⟨L,O⟩,X⟩:=j;split at L
  .rename_i i hi;obtain⟨w',g',H,G,Q⟩:=ARx h B hi (by simpa using L) O X (fun p E=>J p (by simp[EC,E])) (fun p E=>J p (by simp[EC,E]));exact⟨.skip,undef,w',g',by simp only[execOp,Ak,H,Ao,Az],.inr ⟨rfl,rfl⟩,G,fun b _ Y=>Q b Y⟩
  .cases L
 .rename_i y d b;obtain⟨rfl,I⟩:=DH q rfl;obtain⟨ad,g',H,G⟩:=AFa h I B j J;exact⟨a.eval y,g',fun w1=>by simp only[execOp,H,Az],G⟩
 .rename_i op t y z t2 d c op' y' z';obtain⟨rfl,I⟩:=DH q rfl;simp only[AF,decide_eq_true_eq]at j;obtain⟨⟨⟨rfl,L⟩,O⟩,X⟩:=j;obtain⟨v,g',H,G⟩:=AFY h I B X L O (fun p E=>J p (by simp[EC,E])) (fun p E=>J p (by simp[EC,E]));exact⟨v,g',fun w1=>by have H:=H w1;simp only[Ak,Ao]at H;simp only[execOp,Ak,Ao,H,Az],G⟩
 .rename_i op t y d op' b;obtain⟨rfl,I⟩:=DH q rfl;simp only[AF,decide_eq_true_eq]at j;obtain⟨rfl,L⟩:=j;obtain⟨v,g',H,G⟩:=ARy h I B L J;exact⟨v,g',fun w1=>by simp only[execOp,Ak,H,Ao,Az],G⟩
 .rename_i s t y d k b;obtain⟨rfl,I⟩:=DH q rfl;simp only[AF]at j;obtain⟨v,g',H,G⟩:=AFc (s:=s) h I B j.1.1 J j.1.2 j.2;exact⟨v,g',fun w1=>by simp only[execOp,Ak,H,Ao,Az],G⟩
 .rename_i s t y d b;obtain⟨rfl,I⟩:=DH q rfl;simp only[AF]at j;obtain⟨v,w',g',H,G,Q⟩:=wG h I B j.1.1 J j.1.2 j.2;exact⟨.value v,v,w',g',by simp only[execOp,Ak,H,Ao,Az],.inl rfl,G,fun b Y _=>Q b Y⟩
 .rename_i s t y d b;obtain⟨rfl,I⟩:=DH q rfl;simp only[AF]at j;obtain⟨v,g',H,G⟩:=wF h I B j.1.1 J j.1.2 j.2;exact⟨v,g',y,rfl,fun w1 hw1=>by have H:=H w1 hw1;simp only[execOp,Ak,H,Ao,Az],G⟩
 .rename_i fn first caps d f caps'
  obtain⟨rfl,I⟩:=DH q rfl;simp only[AF,Array.isEmpty_iff]at j;obtain⟨rfl,L⟩:=j;obtain⟨g',G⟩:=wN h I B L (fun p E=>J p (by simp[EC,E])) (J (fn,f) (by simp[EC]));exact⟨.func (.func fn) #[] (caps.map a.eval),g',fun w1=>by simp[execOp,Instr.makeFunc,Az,go_sem],G⟩
 .rename_i t n c d zs n' c';obtain⟨rfl,I⟩:=DH q rfl;simp only[AF]at j;obtain⟨⟨⟨L,O⟩,X⟩,h4⟩:=j;split at O
  .rename_i el hu;obtain⟨v,w',g',H,G,Q⟩:=wP h I B L hu O X h4 (fun p E=>J p (by simp[EC,E])) (fun p E=>J p (by simp[EC,E]));exact⟨.value v,v,w',g',by simp only[execOp,Ak,H,Ao,Az],.inl rfl,G,fun b Y _=>Q b Y⟩
  .cases O
 .rename_i t y lo hi mx d e b lo' hi';obtain⟨rfl,I⟩:=DH q rfl;simp only[AF,E4]at j;obtain⟨⟨⟨⟨L,O⟩,X⟩,rfl⟩,h5⟩:=j;obtain⟨v,g',H,G⟩:=AFh h I B h5 L O X (fun p E=>J p (by simp[EC,E])) (fun p E=>J p (by simp[EC,E])) (fun p E=>J p (by simp[EC,E]));exact⟨v,g',fun w1=>by simp only[execOp,Ak,H3,H,Ao,Az],G⟩
 .rename_i t y lo hi mx d b lo' hi';obtain⟨rfl,I⟩:=DH q rfl;simp only[AF,E4]at j;obtain⟨⟨⟨⟨L,O⟩,X⟩,rfl⟩,h5⟩:=j;obtain⟨v,g',H,G⟩:=wW h I B h5 L O X (fun p E=>J p (by simp[EC,E])) (fun p E=>J p (by simp[EC,E])) (fun p E=>J p (by simp[EC,E]));exact⟨v,g',fun w1=>by simp only[execOp,Ak,H3,H,Ao,Az],G⟩
 .rename_i t y f d off b;obtain⟨rfl,I⟩:=DH q rfl;simp only[AF]at j;obtain⟨v,g',H,G⟩:=ARt h I B j.1 j.2 J;exact⟨v,g',fun w1=>by simp only[execOp,Ak,H,Ao,Az],G⟩
 .rename_i t y f d off n b;obtain⟨rfl,I⟩:=DH q rfl;simp only[AF]at j;obtain⟨⟨L,O⟩,X⟩:=j;split at X
  .rename_i fs hu;split at X
   .rename_i fl hfl;have hoff:fl.offset=off:=by
     unfold XK at L;rw[hu]at L;simp only[hfl,AF,beq_iff_eq]at L;exact L.1
    obtain⟨v,g',H,G⟩:=AFe h I B hu hfl hoff X O J;exact⟨v,g',fun w1=>by simp only[execOp,Ak,H,Ao,Az],G⟩
   .cases X
  .cases X
 .rename_i t y i d e b i';obtain⟨rfl,I⟩:=DH q rfl;simp only[AF]at j;obtain⟨⟨L,O⟩,X⟩:=j;obtain⟨v,g',H,G⟩:=ARu h I B L O X (fun p E=>J p (by simp[EC,E])) (fun p E=>J p (by simp[EC,E]));exact⟨v,g',fun w1=>by simp only[execOp,Ak,H,Ao,Az],G⟩
 .rename_i t y i d b i';obtain⟨rfl,I⟩:=DH q rfl;simp only[AF]at j;obtain⟨⟨L,O⟩,X⟩:=j;obtain⟨v,g',H,G⟩:=ARv h I B L O X (fun p E=>J p (by simp[EC,E])) (fun p E=>J p (by simp[EC,E]));exact⟨v,g',fun w1=>by simp only[execOp,Ak,H,Ao,Az],G⟩
 .rename_i t y i d b i';obtain⟨rfl,I⟩:=DH q rfl;simp only[AF,beq_iff_eq]at j;obtain⟨L,rfl⟩:=j;obtain⟨v,g',H,G⟩:=AFd h I B L;exact⟨v,g',fun w1=>by simp only[execOp,Ak,H,Ao,Az],G⟩
 .simp[ev]at B
 .simp[ev]at B
 .rename_i args ats d b;obtain⟨rfl,I⟩:=DH q rfl;split at j
  .rename_i y t Z e2;obtain rfl:args=#[y]:=B2.1 Z;obtain rfl:ats=#[t]:=B2.1 e2;simp only[AF]at j;obtain⟨v,g',H,G⟩:=AFf (ty:=ty) h I B j.2 j.1 (fun p E=>J p (by simp[EC,Ed,E]));exact⟨v,g',fun w1=>by simp only[execOp,resolve,invoke,builtin,Ak,Az,Ao,DJ,AJ,BY,H],G⟩
  .cases j
 .rename_i args ats d b;obtain⟨rfl,I⟩:=DH q rfl;split at j
  .rename_i y t Z e2;obtain rfl:args=#[y]:=B2.1 Z;obtain rfl:ats=#[t]:=B2.1 e2;simp only[AF]at j;obtain⟨v,g',H,G⟩:=wH (ty:=ty) h I B j.2 j.1 (fun p E=>J p (by simp[EC,Ed,E]));exact⟨v,g',fun w1=>by simp only[execOp,resolve,invoke,builtin,Ak,Az,Ao,DJ,AJ,BY,H],G⟩
  .cases j
 .rename_i args ats d e fl x' y';obtain⟨rfl,I⟩:=DH q rfl;split at j
  .rename_i y z t u Z e2;obtain rfl:args=#[y,z]:=B2.1 Z;obtain rfl:ats=#[t,u]:=B2.1 e2;simp only[AF]at j;obtain⟨⟨⟨⟨L,O⟩,X⟩,h4⟩,h5⟩:=j;split at h4
   .rename_i el hu;have h6:∃dd,F.P.underlying u=some dd/\(dd=.string\/∃e',dd=.slice e'):=by
     split at h5
     .rename_i el' hu';exact⟨_,hu',.inr ⟨_,rfl⟩⟩
     .rename_i hu';exact⟨_,hu',.inl rfl⟩
     .cases h5
    obtain⟨dd,hdd1,hdd2⟩:=h6;obtain⟨v,w',g',H,G,Q⟩:=AFX (ty:=ty) h I B L O (fun p E=>J p (by simp[EC,Ed,E])) (fun p E=>J p (by simp[EC,Ed,E])) X hu h4 hdd1 hdd2;exact⟨.value v,v,w',g',by simp only[execOp,resolve,invoke,builtin,Ak,Az,Ao,DJ,AJ,BY,H],.inl rfl,G,fun b Y hT=>Q b Y fun l r L O X=>hT ⟨l,r,L,O,X⟩⟩
   .cases h4
  .cases j
 .rename_i args ats d zs x' y';obtain⟨rfl,I⟩:=DH q rfl;split at j
  .rename_i y z t u Z e2;obtain rfl:args=#[y,z]:=B2.1 Z;obtain rfl:ats=#[t,u]:=B2.1 e2;simp only[AF]at j;obtain⟨⟨⟨⟨L,O⟩,X⟩,h4⟩,h5⟩:=j;split at h4
   .rename_i el hu;split at h5
    .rename_i k0 hu2;simp only[AF]at h4;obtain⟨v,w',g',H,G,Q⟩:=wD (ty:=ty) h I B L O (fun p E=>J p (by simp[EC,Ed,E])) (fun p E=>J p (by simp[EC,Ed,E])) X hu h4.2 h4.1 hu2;exact⟨.value v,v,w',g',by simp only[execOp,resolve,invoke,builtin,Ak,Az,Ao,DJ,AJ,BY,H],.inl rfl,G,fun b Y hT=>Q b Y fun l r L O X=>hT ⟨l,r,L,O,X⟩⟩
    .cases h5
   .cases h4
  .cases j
 .rename_i args ats d e x' y';obtain⟨rfl,I⟩:=DH q rfl;split at j
  .rename_i y z t u Z e2;obtain rfl:args=#[y,z]:=B2.1 Z;obtain rfl:ats=#[t,u]:=B2.1 e2;simp only[AF]at j;obtain⟨⟨⟨L,O⟩,X⟩,h4⟩:=j;obtain⟨v,w',g',H,G,Q⟩:=AFb (t:=t) (u:=u) (ty:=ty) h I B L O (fun p E=>J p (by simp[EC,Ed,E])) (fun p E=>J p (by simp[EC,Ed,E])) X;exact⟨.value v,v,w',g',by simp only[execOp,resolve,invoke,builtin,Ak,Az,Ao,DJ,AJ,BY,H],.inl rfl,G,fun b Y hT=>Q b Y fun l r L O X=>hT ⟨l,r,L,O,X⟩⟩
  .cases j
 .rename_i t r d;obtain⟨rfl,I⟩:=DH q rfl;simp only[AF,E4]at j;obtain⟨rfl,_⟩:=j;obtain⟨v,w',g',H,G,Q⟩:=AFg (t:=t) h I B;exact⟨.value v,v,w',g',by simp only[execOp,H3,Ak,H,Ao,Az],.inl rfl,G,fun b Y _=>Q b Y⟩
 .rename_i t y z okk d m' k';obtain⟨rfl,I⟩:=DH q rfl;simp only[AF,Bool.not_eq_true']at j;obtain⟨⟨⟨rfl,L⟩,O⟩,X⟩:=j;obtain⟨v,g',H,G⟩:=wJ (t:=t) h I B L O X (fun p E=>J p (by simp[EC,E])) (fun p E=>J p (by simp[EC,E]));exact⟨.value v,v,w,g',by simp only[execOp,Ak,H,Ao,Az],.inl rfl,G,fun b Y _=>rfl⟩
 .rename_i t y z u m' k' v';have hdn:dst=none:=by
   cases dst with
   |none=>rfl|some d=>simp[XOp.jm]at q
  subst hdn;simp only[AF]at j;obtain⟨⟨⟨L,O⟩,X⟩,h4⟩:=j;obtain⟨w',g',H,G,Q⟩:=wT (t:=t) h B L O X h4 (fun p E=>J p (by simp[EC,E])) (fun p E=>J p (by simp[EC,E])) (fun p E=>J p (by simp[EC,E]));exact⟨.skip,undef,w',g',by simp only[execOp,Ak,H,Ao,Az],.inr ⟨rfl,rfl⟩,G,fun b Y hT=>Q b Y fun l r L O X=>hT ⟨l,r,L,O,X⟩⟩
 .rename_i args ats d b;obtain⟨rfl,I⟩:=DH q rfl;split at j
  .rename_i y t Z e2;obtain rfl:args=#[y]:=B2.1 Z;obtain rfl:ats=#[t]:=B2.1 e2;simp only[AF]at j;obtain⟨v,g',H,G⟩:=wS (ty:=ty) h I B j.2 j.1 (fun p E=>J p (by simp[EC,Ed,E]));exact⟨.value v,v,w,g',by simp only[execOp,resolve,invoke,builtin,Ak,Az,Ao,DJ,AJ,BY,H],.inl rfl,G,fun b Y _=>rfl⟩
  .cases j
 .rename_i args ats d x' y';obtain⟨rfl,I⟩:=DH q rfl;split at j
  .rename_i y z Z;obtain rfl:args=#[y,z]:=B2.1 Z;simp only[AF]at j;obtain⟨v,g',H,G⟩:=AJK (m:=true) (ts:=ats) (t:=ty) h I B j.1 j.2 (fun p E=>J p (by simp[EC,Ed,E])) (fun p E=>J p (by simp[EC,Ed,E]));simp only[if_true]at H;exact⟨v,g',fun w1=>by simp only[execOp,resolve,invoke,builtin,Ak,Az,Ao,DJ,AJ,BY,H],G⟩
  .cases j
 .rename_i args ats d x' y';obtain⟨rfl,I⟩:=DH q rfl;split at j
  .rename_i y z Z;obtain rfl:args=#[y,z]:=B2.1 Z;simp only[AF]at j;obtain⟨v,g',H,G⟩:=AJK (m:=false) (ts:=ats) (t:=ty) h I B j.1 j.2 (fun p E=>J p (by simp[EC,Ed,E])) (fun p E=>J p (by simp[EC,Ed,E]));simp only[BM,if_false]at H;exact⟨v,g',fun w1=>by simp only[execOp,resolve,invoke,builtin,Ak,Az,Ao,DJ,AJ,BY,H],G⟩
  .cases j
 .simp[ev]at B
 .cases j
theorem Did.eff{o:Oper}{x:XOp}(c:Did F S S' g a o w x):∃n v w' g',(execOp a.eval o).run F.P w=.ok n w'/\(n=.value v\/(n=.skip/\v=undef))/\Inv F S' g' (a.put o.dst v) w'/\∀b,b<w.heap.size->¬Tch S g x b->w'.heap[b]?=w.heap[b]?:=by
 unfold Did at c;split at c
 .obtain⟨v,g',e,h⟩:=c;exact⟨_,v,w,g',e w,.inl rfl,h,fun _ _ _=>rfl⟩
 .obtain⟨v,g',y,_,e,h⟩:=c;exact⟨_,v,w,g',e w (fun _ _=>rfl),.inl rfl,h,fun _ _ _=>rfl⟩
 .exact c
theorem Did.wp{o:Oper}{x:XOp}(c:Did F S S' g a o w x){next:Act->World->Prop}{Q:Exit->Act->World->Prop}(q:∀g' v w',Inv F S' g' (a.put o.dst v) w'->next (a.put o.dst v) w'):o.wp F.P a w next Q:=by
 obtain⟨n,v,w',g',e,h,j,_⟩:=c.eff
 grind[Oper.wp,Oper.upon]
theorem xO(h:Inv F S g a w){o:Oper}{x:XOp}(e:VQ F.P F.N o.dst o.op x=true)(q:MS x S=some S'):∃g',Inv F S' g' (a.put o.dst undef) w:=by
 obtain⟨dst,op,ty,pos,after,guard⟩:=o;dsimp only at e ⊢;simp only[VQ,AF]at e;obtain⟨j,_⟩:=e;unfold MS at q;cases E:x.jm with
 |some d=>
  obtain⟨rfl,G⟩:=DH j E;simp only[E]at q;refine h.D9 (vs:=[undef]) (nf:=fun _ _=>False) q G (Cells.free rfl ?_ (by simp));intro c l B;cases c with
  |zero=>simp only[AM,AD]at B;subst B;exact⟨undef,rfl,rfl⟩|succ c=>simp at B
 |none=>
  simp only[E,AD]at q;subst q;have y:dst=none:=by
   grind
  subst y;exact⟨g,h⟩
theorem Z5(h:Inv F S g a w){ops:Array Oper}{o:Oper}{gd:Option (Nat×Bool)}{b:Bool}(c:Oc ops o.guard gd=true)(B:wanted S gd=some b):Region.wanted o (yielded ops a.tmps)=b:=by
 unfold Region.wanted;unfold Oc at c;split at c
 .rename_i Q;simp only[wanted,AD]at B;rw[Q];exact B
 .rename_i j want s want' Q;rw[Q];simp only[AF,beq_iff_eq]at c;obtain⟨rfl,c⟩:=c;split at c
  .rename_i oj L;simp only[decide_eq_true_eq]at c;simp only[wanted]at B;split at B
   .rename_i bb O;simp only[AD]at B;obtain⟨G,hv,Y⟩:=h.tms s _ O;obtain⟨v,q,e⟩:=h.Cq (.tmp s 0) (.t (.bool bb)) (by simp[St.at,O]);have H:v=.bool bb:=e;have X:g.tv s=[.bool bb]:=by
     match E:g.tv s,Y with
     | [y],_=>simp[Gh.rv,E]at q;rw[q,H]
    have Z:a.tmps[s]?=some (.bool bb):=by
     have I:s<a.tmps.size:=by rw[h.tsz];exact G
     have J:a.tmps.getD s undef=.bool bb:=by rw[hv,X];rfl
     rw[G0 I];simp only[Array.getD,I,dif_pos]at J;exact congrArg some J
    simp only[yielded,L,KM,c,Z];rw[<-B];cases bb<;>cases want<;>rfl
   .rename_i O;simp only[AD]at B;obtain⟨G,hv,Y⟩:=h.tms s _ O;obtain⟨v,q,e⟩:=h.Cq (.tmp s 0) .und (by simp[St.at,O]);have H:v=undef:=e;have X:g.tv s=[undef]:=by
     match E:g.tv s,Y with
     | [y],_=>simp[Gh.rv,E]at q;rw[q,H]
    have Z:a.tmps[s]?=some undef:=by
     have I:s<a.tmps.size:=by rw[h.tsz];exact G
     have J:a.tmps.getD s undef=undef:=by rw[hv,X];rfl
     rw[G0 I];simp only[Array.getD,I,dif_pos]at J;exact congrArg some J
    simp only[yielded,L,KM,c,Z];rw[<-B];rfl
   .cases B
  .cases c
 .cases c
end
end Lv
