/- The light machine is right about the program's code. -/
import Derived.Test.YtfokjgkkeobaiaaGreatLvAS
import Derived.Laws.AppendOwn
import Derived.IntWalk
import Derived.MapKept
import Derived.WideLaws
import Derived.LoopN
import Derived.Scope
import Derived.OrdersHeld
set_option linter.all false
open Array renaming empty_append->Jr,foldl_toList->Js,getD_eq_getD_getElem?->C8,getElem?_append_left->DD,getElem?_eq_getElem->HS,getElem?_eq_some_iff->BB,getElem?_toList->DL,length_toList->Bg,size_append->EL,toList_inj->B3,toList_zipIdx->JN
open Bool renaming and_eq_true->AF,false_eq_true->BJ,not_eq_true'->A8,or_eq_false_iff->FJ,or_eq_true->DA
open Go.Builtin renaming append_->Bh,copy_->Cp,firstCells->BU,lenOf->Bd,nextslicecap->Cs,zeroCells->A4
open List renaming all_eq_true->CG,cons_append->Bm,contains_iff_mem->Ez,drop_drop->C3,drop_eq_nil_of_le->As,foldl_cons->Bw,getElem?_append_left->BN,getElem?_append_right->BH,getElem?_cons_succ->CJ,getElem?_cons_zero->AN,getElem?_drop->Bz,getElem?_eq_getElem->AR,getElem?_eq_none->De,getElem?_eq_some_iff->AP,getElem?_map->A0,getElem?_of_mem->B2,getElem?_tail->Ju,getElem?_toArray->BS,getElem_mem->Ak,length_append->AH,length_cons->AI,length_map->Ac,length_nil->AM,length_take->Aj,map_cons->AK,map_nil->Ba,map_toArray->C1,mem_append->Bs,mem_cons->Ae,mem_map->Ej,mem_of_getElem?->Au,mem_singleton->D5,nil_append->Be,size_toArray->A1,take_of_length_le->BE
open List.cons renaming injEq->CE
open Nat renaming add_comm->NQ,add_mul->Bb,add_sub_cancel_left->IB,add_zero->C9,div_add_mod->Gg,div_lt_iff_lt_mul->Cz,eq_zero_or_pos->Jw,le_refl->Ab,lt_of_lt_of_le->BY,min_eq_left->D9,mod_lt->Em,mul_comm->GV,mul_le_mul_right->An,mul_one->Ke,ne_of_gt->J9,one_mul->Dk,zero_add->Ar
open Option renaming bind_some->Kt,isNone_iff_eq_none->EV,isSome_iff_exists->Br,isSome_map->Eu,map_eq_some_iff->AO,map_none->IT,map_some->Ap
open Option.some renaming injEq->AD
open Prod.mk renaming injEq->A6
open Go.Region renaming binds->EP,ready->Bk
open Go.Result renaming andThen->Ao
open Go.Sem renaming run_bind->Am,run_pure->Ay
namespace Lv
open Go
variable{a:Act}{K:Act->World->Prop}{xs ys:List (List T)}{es:List Ent}{ms:List Md}{vs:List Value}{e i j:Nat}{f:Nat->Nat->Blk}{c:Nat->Nat->Value}{o:Oper}{w:World}
section
variable{P:Program}{w:World}
variable{el t:TypeId}
structure O5(P:Program)(w:World)(size:Nat)(x:Value)(n:Nat)(news:List Value):Prop where
 len:∀w',(Bd x).run P w'=.ok n w'
 first:(BU size n x).run P w=.ok news.toArray w
 drew:(BU size n x).run P w.drew=.ok news.toArray w.drew
theorem yr{u ty:TypeId}{i:TypeInfo}{d:TypeDesc}{x:Value}{n:Nat}{news:List Value}{b o sLen sCap:Nat}{cur:Array Value}{E:TypeId}(O:P.underlying t=some (.slice el))(hi:P.info? el=some i)
 (X:P.underlying u=some d) (I:d=.string\/∃q,d=.slice q) (G:O5 P w i.size x n news) (hroom:sLen+n<=sCap) {e:Nat} (J:Fb w b cur E e) (c:o+sLen*i.size+news.length<=cur.size) (H:∀v∈news,v.oneCell'=true) :
 (Bh #[t,u] ty #[.slice (some ⟨b,o,none⟩) sLen sCap,x]).run P w =
  .ok (.slice (some ⟨b,o,none⟩) (sLen+n) sCap) (w.setRow b (cur.toList.take (o+sLen*i.size)++news++cur.toList.drop (o+sLen*i.size+news.length)).toArray):=by
 have B:=G.len w;have y:=G.first
 have h:=Fp (P:=P) J c H;have j:=Ha (P:=P) (w:=w) hi;unfold Bh;simp only[A1,AI,AM,Ar,Nat.reduceAdd,BS,AN,CJ];generalize Bd=L at B ⊢;generalize BU=F at y ⊢;rcases I with rfl|⟨q,rfl⟩<;>simp[run_underlying O,run_underlying X,j,B,y,hroom,G3,h,go_sem]
def HA(w:World)(E:TypeId)(cells:Array Value):World:=w.drew.alloc (.cells cells E)
theorem yq{u ty:TypeId}{i:TypeInfo}{z:Value}{d:TypeDesc}{x:Value}{n:Nat}{news olds:List Value}{ad:Option Addr}{sLen sCap:Nat}(J:P.underlying t=some (.slice el))(hi:P.info? el=some i)(X:i.zero=some z)
 (O:P.underlying u=some d) (H:d=.string\/∃q,d=.slice q) (G:O5 P w i.size x n news) (I:O5 P w i.size (.slice ad sLen sCap) sLen olds) (hroom:sCap<sLen+n) (h:0<i.bytes) (B:Cs (sLen+n) sCap*i.bytes<=281474976710656) :
 (Bh #[t,u] ty #[.slice ad sLen sCap,x]).run P w =
  .ok (.slice (some ⟨w.heap.size,0,none⟩) (sLen+n) (grownCap w (sLen+n) sCap el)) (HA w el (olds.toArray++news.toArray++A4 z.cells (grownCap w (sLen+n) sCap el-(sLen+n)))):=by
 have E:=G.len w;have y:=G.drew;have c:=I.drew;have j:=Ha (P:=P) (w:=w) hi;have hroom':¬(sLen+n<=sCap):=by omega
 have hfit':¬(281474976710656<Cs (sLen+n) sCap*i.bytes):=by omega
 unfold Bh;simp only[A1,AI,AM,Ar,Nat.reduceAdd,BS,AN,CJ];have e:∀Z:Array Value,olds.toArray++(news.toArray++Z)=(olds++news).toArray++Z:=by intro Z;rw[<-Array.append_assoc];simp
 generalize Bd=L at E ⊢;generalize BU=F at y c ⊢;rcases H with rfl|⟨q,rfl⟩<;>simp[run_underlying J,run_underlying O,j,E,hroom',typeInfo,hi,hfit',y,c,J9 h,Question.forced,zeroValue,X,newRow,grownCap,HA,e,go_sem]
theorem AEd{u ty:TypeId}{i:TypeInfo}{d:TypeDesc}{x:Value}(B:P.underlying t=some (.slice el))(hi:P.info? el=some i)
 (E:P.underlying u=some d) (y:d=.string\/∃e,d=.slice e) (q:O5 P w i.size x 0 []) :
 (Bh #[t,u] ty #[.slice none 0 0,x]).run P w=.ok (.slice none 0 0) w:=by
 have j:=q.len w;have h:=q.first
 have c:=Ha (P:=P) (w:=w) hi;unfold Bh;simp only[A1,AI,AM,Ar,Nat.reduceAdd,BS,AN,CJ];generalize Bd=L at j ⊢;generalize BU=F at h ⊢;rcases y with rfl|⟨e,rfl⟩<;>simp[run_underlying B,run_underlying E,c,j,h,go_sem]
structure RD(P:Program)(w:World)(t u ty el:TypeId)(e:Nat)(y:Value)(n:Nat)(news:List Value):Prop where
 room:∀{b o sLen sCap:Nat} {cur:Array Value} {E:TypeId},sLen+n<=sCap->Fb w b cur E e->o+sLen*e+news.length<=cur.size->(∀v∈news,v.oneCell'=true) ->
  (Bh #[t,u] ty #[.slice (some ⟨b,o,none⟩) sLen sCap,y]).run P w =
   .ok (.slice (some ⟨b,o,none⟩) (sLen+n) sCap) (w.setRow b (cur.toList.take (o+sLen*e)++news++cur.toList.drop (o+sLen*e+news.length)).toArray)
 grow:∀{i:TypeInfo} {z:Value} {olds:List Value} {ad:Option Addr} {sLen sCap:Nat},P.info? el=some i->i.zero=some z->i.size=e->O5 P w e (.slice ad sLen sCap) sLen olds->sCap<sLen+n->0<i.bytes->Cs (sLen+n) sCap*i.bytes<=281474976710656->sLen+n<=lim ->
  (Bh #[t,u] ty #[.slice ad sLen sCap,y]).run P w =
   .ok (.slice (some ⟨w.heap.size,0,none⟩) (sLen+n) (grownCap w (sLen+n) sCap el)) (HA w el (olds.toArray++news.toArray++A4 z.cells (grownCap w (sLen+n) sCap el-(sLen+n))))
 nil:n=0->news=[]->(Bh #[t,u] ty #[.slice none 0 0,y]).run P w=.ok (.slice none 0 0) w
theorem O5.app{u ty:TypeId}{i:TypeInfo}{d:TypeDesc}{y:Value}{n:Nat}{news:List Value}{e:Nat}(h:O5 P w e y n news)(I:P.underlying t=some (.slice el))(hi:P.info? el=some i)(H:i.size=e)
 (J:P.underlying u=some d) (G:d=.string\/∃c,d=.slice c):RD P w t u ty el e y n news:=by
 subst H;refine⟨λj q B E=>yr I hi J G h j q B E,?_,?_⟩
 .grind[yq]
 grind[AEd]
theorem AFI{u ty:TypeId}{i:TypeInfo}{z:Value}{k0 k:IntKind}{m:Int}(O:P.underlying t=some (.slice el))(hi:P.info? el=some i)(hz:i.zero=some z)(X:P.underlying u=some (.int k0))(h0:0<=m)(h1:m<=lim)(hb:i.bytes<=65536)(hs:0<i.size)(hzs:z.cells.size=i.size) :
 RD P w t u ty el i.size (.int k m) m.toNat (A4 z.cells m.toNat).toList:=by
 have hlim:(lim:Int)=268435456:=rfl;have Y:IntKind.i64.wrap m=m:=Go.IntWalk.i64_in m (by omega);have hm:((m.toNat:Nat):Int)=m:=by omega
 have e:¬(m*(i.bytes:Int)>281474976710656):=by
  have:m*(i.bytes:Int)<=268435456*65536:=Int.mul_le_mul (by omega) (by omega) (by omega) (by omega);omega
 have y:∀w:World,(Go.sizeOf el).run P w=.ok i.size w:=λw=>Ha (P:=P) (w:=w) hi
 have B:∀w:World,(typeInfo el).run P w=.ok i w:=λw=>by simp[typeInfo,hi,go_sem]
 have H:∀w:World,(zeroValue el).run P w=.ok z w:=λw=>by simp[zeroValue,typeInfo,hi,hz,go_sem]
 have j:¬m<0:=by omega
 have J:m.toNat*i.size=0->A4 z.cells m.toNat=#[]:=by
  intro h;apply Array.eq_empty_of_size_eq_zero;simp[A4,hzs,h]
 have happ:∀w:World,(if m.toNat*i.size=0 then pure #[] else do pure (A4 (<-zeroValue el).cells m.toNat):Sem (Array Value)).run P w=.ok (A4 z.cells m.toNat) w:=by
  intro w;split
  .rename_i h;rw[J h];rfl
  .simp[H,go_sem]
 refine⟨?_,?_,?_⟩
 .intro b o sLen sCap cur E h1 h2 h3 h4;have q:=Fp (P:=P) h2 h3 h4;unfold Bh;simp only[A1,AI,AM,Ar,Nat.reduceAdd,BS,AN,CJ];by_cases c:m.toNat*i.size=0
  .rw[J c]at q ⊢;have L:Result.ok () w=Result.ok () (w.setRow b (cur.toList.take (o+sLen*i.size)++[]++cur.toList.drop (o+sLen*i.size+([]:List Value).length)).toArray):=q;have I:=(Result.ok.inj L).2;generalize A4=Z;simp[run_underlying O,run_underlying X,y,B,asInt,Y,j,e,h1,c,G3,go_sem];simp at I;exact I
  .generalize A4=Z at q ⊢;generalize Value.cells=C at q ⊢;simp[run_underlying O,run_underlying X,y,B,asInt,Y,j,e,h1,c,G3,H,go_sem];simp[q,go_sem]
 .intro i' z' olds ad sLen sCap g1 g2 g3 g4 g5 g6 g7 g8;rw[hi]at g1;cases g1;rw[hz]at g2;cases g2;have G:=g4.drew;have hroom':¬(sLen+m.toNat<=sCap):=by omega
  have hfit':¬(281474976710656<Cs (sLen+m.toNat) sCap*i.bytes):=by omega
  have hneed:¬(9223372036854775807<(sLen:Int)+max m 0):=by
   have:lim=268435456:=rfl;omega
  unfold Bh;simp only[A1,AI,AM,Ar,Nat.reduceAdd,BS,AN,CJ];by_cases c:m.toNat*i.size=0
  .rw[J c];generalize BU=F at G ⊢;generalize A4=Z;generalize Value.cells=C;simp[run_underlying O,run_underlying X,y,B,asInt,Y,j,e,hroom',hfit',hneed,c,go_sem];simp[G,H,newRow,grownCap,HA,Question.forced,J9 g6,go_sem]
  .generalize BU=F at G ⊢;generalize A4=Z;generalize Value.cells=C;simp[run_underlying O,run_underlying X,y,B,asInt,Y,j,e,hroom',hfit',hneed,c,go_sem];simp[G,H,newRow,grownCap,HA,Question.forced,J9 g6,go_sem]
 .intro h1 h2;unfold Bh;simp only[A1,AI,AM,Ar,Nat.reduceAdd,BS,AN,CJ];have hm0:m=0:=by omega
  subst hm0;simp[run_underlying O,run_underlying X,y,B,asInt,Y,go_sem]
end
structure CW(w:World)(e:Nat)(ys:List (List T))(c:Nat->Nat->Value)(f:Nat->Nat->Blk)(vs:List Value):Prop where
 len:vs.length=ys.length*e
 row:∀row∈ys,row.length=e
 cell:∀i j x,at2 ys i j=some x->vs[i*e+j]?=some (c i j)/\Own w x (c i j) (f i j)
 dis:∀i j x i' j' x',at2 ys i j=some x->at2 ys i' j'=some x'->(i=i'->j≠j')->∀b,f i j b->¬f i' j' b
theorem OJ(c:∀row∈xs,row.length=e)(hi:i<xs.length)(h:j<e):∃x,at2 xs i j=some x:=by
 unfold at2;rw[AR hi];have:=c xs[i] (Ak hi);exact⟨_,AR (by omega)⟩
theorem CW.one(h:CW w e ys c f vs):∀v∈vs,v.oneCell'=true:=by
 intro v H;obtain⟨k,B⟩:=B2 H;have j:k<vs.length:=(AP.1 B).1;rw[h.len]at j;have y:0<e:=by
  grind[Nat.eq_zero_or_pos]
 have hi:k / e<ys.length:=(Cz y).2 j;have G:k % e<e:=Em _ y;obtain⟨x,I⟩:=OJ h.row hi G;obtain⟨q,E⟩:=h.cell _ _ _ I;rw[GV,Gg,B]at q;cases q;exact E.one
theorem CW.nil:CW w e [] (λ_ _=>undef) (λ_ _ _=>False) []:=
 ⟨by simp,by simp,by intro i j x c;simp[at2]at c,by intro i j x h q y c;simp[at2]at c⟩
theorem CW.read(B:∀row∈ys,row.length=e)(H:∀i j x,at2 ys i j=some x->Own w x (c i j) (f i j))
 (E:∀i j x q y I,at2 ys i j=some x->at2 ys q y=some I->(i=q->j≠y)->∀b,f i j b->¬f q y b) :
 CW w e ys c f ((List.range (ys.length*e)).map λk=>c (k / e) (k % e)):=by
 refine⟨by simp,B,?_,E⟩;intro i j x h;refine⟨?_,H i j x h⟩;have hi:=uC h;have J:=PE h B;have G:i*e+j<ys.length*e:=by
  have:(i+1)*e<=ys.length*e:=An _ hi
  grind[Nat.add_mul]
 grind[List.getElem?_range,Option.some.injEq,Nat.mul_comm,Nat.mul_add_div,Nat.div_eq_of_lt,Nat.mul_add_mod,Nat.mod_eq_of_lt]
theorem OE{P:Program}{blk off cap:Nat}(h:CW w e ys c f vs)
 (I:∀i j x,at2 ys i j=some x->w.cell? ⟨blk,off+i*e+j,none⟩=some (c i j)):O5 P w e (.slice (some ⟨blk,off,none⟩) ys.length cap) ys.length vs:=by
 have hcell:∀j v,vs[j]?=some v->w.cell? ((⟨blk,off,none⟩:Addr).add j)=some v:=by
  intro k v B;have q:k<vs.length:=(AP.1 B).1;rw[h.len]at q;have y:0<e:=by
   grind[Nat.eq_zero_or_pos]
  obtain⟨x,G⟩:=OJ h.row ((Cz y).2 q) (Em k y);obtain⟨H,_⟩:=h.cell _ _ _ G
  grind[Nat.mul_comm,Nat.div_add_mod,Nat.add_assoc,G3]
 refine⟨λw'=>by simp[Bd],run_firstCells_some (P:=P) w e ys.length ⟨blk,off,none⟩ _ cap vs h.len hcell,?_⟩;refine run_firstCells_some (P:=P) w.drew e ys.length ⟨blk,off,none⟩ _ cap vs h.len ?_;intro j v E;exact hcell j v E
theorem AMt{P:Program}{w:World}{e:Nat}{xs:List (List T)}{v:Value}{fp:Blk}(h:Own w (.sl e xs) v fp) :
 ∃c f vs,CW w e xs c f vs/\O5 P w e v xs.length vs/\∀i j x b,at2 xs i j=some x->f i j b->fp b:=by
 cases h with
 |sc h _ _=>exact h.elim|nl=>
  exact⟨λ_ _=>undef,λ_ _ _=>False,[],⟨by simp,by simp,by simp[at2],by simp[at2]⟩,⟨λw'=>by simp[Bd],run_firstCells_none ..,run_firstCells_none ..⟩,by simp⟩
 |sl c f E L q H O I y X B G=>
  subst E;refine⟨c,f,_,CW.read q y B,OE (CW.read q y B) ?_,?_⟩
  .intro i j x J;rw[H.cell];exact I i j x J
  grind
theorem RV(h:HF xs=true){x}(e:at2 xs i j=some x):flat x=true:=by
 unfold at2 at e;split at e
 .rename_i row c;simp only[HF,CG]at h;exact h row (Au c) x (Au e)
 .cases e
theorem OF{w}{B}{x}{v}(h:View w B x v)(c:flat x=true):Own w x v (λ_=>False):=by
 cases h with
 |sc e=>exact .sc e (e.one (by cases x<;>first|rfl|simp[flat]at c)) (by simp)
 |sl=>simp[flat]at c|nl=>simp[flat]at c|mp=>simp[flat]at c
theorem oW{P:Program}{w:World}{B:Blk}{e:Nat}{xs:List (List T)}{v:Value}(h:View w B (.sl e xs) v)(L:HF xs=true) :
 ∃c vs,CW w e xs c (λ_ _ _=>False) vs/\O5 P w e v xs.length vs:=by
 cases h with
 |sc h=>exact h.elim|nl=>
  refine⟨λ_ _=>undef,[],⟨by simp,by simp,by simp[at2],by simp[at2]⟩,λw'=>by simp[Bd],run_firstCells_none ..,run_firstCells_none ..⟩
 |@sl _ _ a len cap c E X G H I J=>
  subst E;have hC:CW w e xs c (λ_ _ _=>False) _:=CW.read G (λi j x q=>OF (J i j x q) (RV L q)) (by simp);refine⟨c,_,hC,?_⟩;by_cases q:xs=[]
  .subst q;have O:((List.range (([]:List (List T)).length*e)).map λk=>c (k / e) (k % e))=[]:=by simp
   rw[O];refine⟨λw'=>by simp[Bd],?_,?_⟩
   .exact run_firstCells_some (P:=P) w e 0 a 0 cap [] (by simp) (by simp)
   .exact run_firstCells_some (P:=P) w.drew e 0 a 0 cap [] (by simp) (by simp)
  .obtain⟨y,_⟩:=H q;obtain⟨blk,off,sp⟩:=a;dsimp only at y;subst y;exact OE hC I
theorem WU{x:T}(h:at2 (xs++ys) i j=some x):(i<xs.length/\at2 xs i j=some x)\/(xs.length<=i/\at2 ys (i-xs.length) j=some x):=by
 grind[at2,List.getElem?_append_left,List.getElem?_append_right]
theorem CW.app{c'}{X}{us}(h:CW w e xs c f vs)(J:CW w e ys c' X us)
(hd:∀i j x E I O b,at2 xs i j=some x->at2 ys E I=some O->f i j b->¬X E I b) :
 CW w e (xs++ys) (λi j=>if i<xs.length then c i j else c' (i-xs.length) j) (λi j=>if i<xs.length then f i j else X (i-xs.length) j) (vs++us):=by
 refine⟨by simp[h.len,J.len,Bb],?_,?_,?_⟩
 .intro row H;rcases Bs.1 H with H|H
  .exact h.row row H
  .exact J.row row H
 .intro i j x y;rcases WU y with ⟨hi,y⟩|⟨hi,y⟩
  .simp only[AW hi];obtain⟨L,Y⟩:=h.cell i j x y;refine⟨?_,Y⟩;rw[BN (AP.1 L).1];exact L
  .simp only[AT (by omega:¬i<xs.length)];obtain⟨L,Y⟩:=J.cell _ j x y;refine⟨?_,Y⟩;have:i*e+j=vs.length+((i-xs.length)*e+j):=by
    rw[h.len];have:i*e=xs.length*e+(i-xs.length)*e:=by rw[<-Bb];congr 1;omega
    omega
   rw[this,BH (by omega),IB];exact L
 .intro i j x E I O y q G b;rcases WU y with ⟨hi,y⟩|⟨hi,y⟩<;>rcases WU q with ⟨B,q⟩|⟨B,q⟩
  .simp only[AW hi,AW B];exact h.dis i j x E I O y q G b
  .simp only[AW hi,AT (by omega:¬E<xs.length)];exact hd _ _ _ _ _ _ b y q
  .simp only[AT (by omega:¬i<xs.length),AW B];exact λhb Z=>hd _ _ _ _ _ _ b q y Z hb
  .simp only[AT (by omega:¬i<xs.length),AT (by omega:¬E<xs.length)];exact J.dis _ j x _ I O y q (by intro hh;exact G (by omega)) b
theorem CW.own{w'}(h:CW w e ys c f vs){blk off cap}{arr}{E}
(J:Fb w' blk arr E e)(q:ys.length<=cap)(H:off+cap*e<=arr.size)(B:∀k v,vs[k]?=some v->arr[off+k]?=some v)(G:∀i j x,at2 ys i j=some x->¬f i j blk)
(L:∀i j x b,at2 ys i j=some x->f i j b->w'.heap[b]?=w.heap[b]?) :
 Own w' (.sl e ys) (.slice (some ⟨blk,off,none⟩) ys.length cap) (λb=>b=blk\/∃i j x,at2 ys i j=some x/\f i j b):=by
 refine .sl c f rfl q h.row J H ?_ ?_ G h.dis (λ_=>Iff.rfl)
 .intro i j x y;have:=B _ _ (h.cell i j x y).1;rw[<-this];congr 1;omega
 .intro i j x y;exact(h.cell i j x y).2.frame λb I=>L i j x b y I
section
variable{F:Fix}{S S' S1:St}{g g':Gh}{a a':Act}{w w':World}
theorem AZ3(h:Inv F S g a w){l:AS}{v:Value}(O:B1 F S g w (λ_=>False) l v){e:Nat}{fl:Bool}{ys:List (List T)}(q:P5 e fl S l=some (S1,ys)) :
 SS F S S1 g a w/\∃c f vs,CW w e ys c f vs/\O5 F.P w e v ys.length vs /\
  (∀i j x b,at2 ys i j=some x->f i j b->¬F.K b/\(∀r,CP S1 r->¬g.fp r b)/\∀id,(get S.bx id).isSome->b≠g.β id):=by
 have same:SS F S S g a w:=⟨h,λ_ _ h=>h,λ_ h=>h,rfl⟩;have nilsrc:∀{e},O5 F.P w e (.slice none 0 0) ([]:List (List T)).length []:=λ{e}=>
  ⟨λw'=>by simp[Bd],by simp[BU],by simp[BU]⟩
 match l,O with
 |.t x,O=>
  cases x with
  |str s=>
   simp only[P5]at q;split at q
   .rename_i he;cases q;subst he;have X:v=.string ⟨s.toArray⟩:=O;have hC:CW w 1 (Ki s) (λi _=>((s.map λb=>Value.int .u8 b.toNat)[i]?).getD undef) (λ_ _ _=>False) (s.map λb=>Value.int .u8 b.toNat):=by
     refine⟨by simp[Ki],?_,?_,by simp⟩
     .intro row hr;simp only[Ki,Ej]at hr;obtain⟨_,_,rfl⟩:=hr;rfl
     .intro i j x Y;obtain⟨b,E,rfl,rfl⟩:=pe Y;simp only[Ke,C9,A0,E,Ap,Option.getD_some,true_and];exact .sc rfl rfl (by simp)
    refine⟨same,_,_,_,hC,⟨λw'=>?_,?_,?_⟩,λ_ _ _ _ _ E=>E.elim⟩
    .rw[X];simp[Bd,Ki,ByteArray.size]
    .rw[X];simp[BU,Ki,ByteArray.data_extract]
    .rw[X];simp[BU,Ki,ByteArray.data_extract]
   .cases q
  |nil=>
   simp only[P5,AD,A6]at q;obtain⟨rfl,rfl⟩:=q;have X:v=.slice none 0 0:=O;subst X;exact⟨same,_,_,_,CW.nil,nilsrc,λ_ _ _ _ _ E=>E.elim⟩
  |_=>simp[P5]at q
 |.vw s e' xs,O=>
  simp only[P5]at q;split at q
  .rename_i hc;obtain⟨rfl,Z⟩:=hc;simp only[AD,A6]at q;obtain⟨rfl,rfl⟩:=q;obtain⟨B,hV⟩:∃B,View w B (.sl e' xs) v:=by
    cases s with
    |own r p=>obtain⟨_,⟨S0,_,hO⟩,_⟩:=O;exact⟨_,hO.view⟩
    |old k=>exact⟨_,O⟩
   obtain⟨c,vs,hC,hS⟩:=oW (P:=F.P) hV Z;exact⟨same,c,_,vs,hC,hS,λ_ _ _ _ _ E=>E.elim⟩
  .cases q
 |.al r sub,⟨x,u,I,h2,h3⟩=>
  simp only[P5,I]at q;obtain⟨u',hu',hown⟩:=h.C0 r _ I;rw[h2]at hu';cases hu';obtain⟨S0,hS0,hO⟩:=R3 hown h3;split at q
  .rename_i xs H;split at q
   .rename_i he;have hout:SS F S (S.out r) g a w:=⟨h.out I,λr' y hy=>nE I hy,λid L=>V5 L,ya⟩;have cells:∃c f vs,CW w e (KF sub xs) c f vs/\O5 F.P w e v (KF sub xs).length vs/\∀i j x b,at2 (KF sub xs) i j=some x->f i j b->S0 b:=by
     cases x with
     |sl e' zs=>
      simp only[content,AD]at H;subst H;simp only[eOf,beq_iff_eq]at he;subst he;exact AMt (P:=F.P) hO
     |nil=>
      simp only[content,AD]at H;subst H;have G:KF sub ([]:List (List T))=[]:=by cases sub with|none=>rfl|some p=>simp[KF]
      have X:v=.slice none 0 0:=by
       cases hO with
       |sc q _ _=>exact q
      subst X;rw[G];exact⟨_,_,_,CW.nil,nilsrc,λ_ _ _ _ _ E=>E.elim⟩
     |_=>simp[content]at H
    split at q
    .by_cases Z:HF (KF sub xs)=true
     case neg=>rw[AT Z]at q;cases q
     rw[AW Z]at q;cases q;obtain⟨c,f,vs,hC,hS,G⟩:=cells;have hC':CW w e (KF sub xs) c (λ_ _ _=>False) vs:=
      ⟨hC.len,hC.row,λi j x Y=>⟨(hC.cell i j x Y).1,OF (hC.cell i j x Y).2.view (RV Z Y)⟩,by simp⟩
     exact⟨same,c,_,vs,hC',hS,λ_ _ _ _ _ E=>E.elim⟩
    .cases q;obtain⟨c,f,vs,hC,hS,G⟩:=cells;refine⟨hout,c,f,vs,hC,hS,λi j x b Y E=>?_⟩;have E:=hS0 b (G i j x b Y E);refine⟨h.HM r ⟨_,I⟩ b E,λr' hr' J=>?_,λid L J=>?_⟩
     .obtain⟨hne,hal⟩:=Ix I hr';exact h.dis r r' ⟨_,I⟩ hal (Ne.symm hne) b E J
     .subst J;exact h.Fh r id ⟨_,I⟩ L E
   .cases q
  .cases q
 |.und,_=>simp[P5]at q|.ow _,_=>simp[P5]at q|.ep _ _ _,_=>simp[P5]at q|.vp _ _,_=>simp[P5]at q|.bp _ _,_=>simp[P5]at q|.fn _ _,_=>simp[P5]at q
end
theorem AXi{P:Program}{w:World}{e:Nat}{xs:List (List T)}{v:Value}{fp:Blk}(h:Own w (.sl e xs) v fp) :
 (v=.slice none 0 0/\xs=[])\/∃c f vs blk off cap arr E,v=.slice (some ⟨blk,off,none⟩) xs.length cap/\xs.length<=cap/\Fb w blk arr E e/\off+cap*e<=arr.size/\CW w e xs c f vs/\O5 P w e v xs.length vs /\
  (∀k u,vs[k]?=some u->arr[off+k]?=some u)/\fp blk/\∀i j x b,at2 xs i j=some x->f i j b->fp b/\b≠blk:=by
 cases h with
 |sc h _ _=>exact h.elim|nl=>exact .inl ⟨rfl,rfl⟩|@sl _ _ blk off len cap arr E _ c f O X I J Y Z h7 h8 h9 y=>
  subst O;have hC:=CW.read I h7 h9;refine .inr ⟨c,f,_,blk,off,cap,arr,E,rfl,X,J,Y,hC,OE hC ?_,?_,(y _).2 (.inl rfl),?_⟩
  .intro i j x q;rw[J.cell];exact Z i j x q
  .intro k u hk;have B:k<xs.length*e:=by
    have:=(AP.1 hk).1
    rwa[hC.len]at this
   have G:0<e:=by
    rcases Jw e with H|H
    .subst H;simp at B
    .exact H
   obtain⟨x,q⟩:=OJ I ((Cz G).2 B) (Em k G);obtain⟨q1,_⟩:=hC.cell _ _ _ q
   grind[Nat.mul_comm,Nat.div_add_mod,Nat.add_assoc]
  .intro i j x b q L;exact⟨(y b).2 (.inr ⟨i,j,x,q,L⟩),λG=>h8 i j x q (G▸L)⟩
section
variable{F:Fix}{S S' S1 S2:St}{g g':Gh}{a a':Act}{w w':World}
variable{b d:Nat}{oa ob:Operand}{x:T}
theorem Inv.quiet(h:Inv F S g a w)(X:Still w w')(H:∀b,b<w.heap.size->(F.K b\/(∃r,CP S r/\g.fp r b)\/∃id,(get S.bx id).isSome/\b=g.β id)->w'.heap[b]?=w.heap[b]?):Inv F S g a w':=by
 have hR:∀b,F.K b->w'.heap[b]?=w.heap[b]?:=λb e=>H b (BY (h.rlt b e) h.size) (.inl e)
 have j:∀r,CP S r->∀b,g.fp r b->w'.heap[b]?=w.heap[b]?:=by
  intro r O b e;obtain⟨x,B⟩:=O;obtain⟨v,_,c⟩:=h.C0 r _ B;exact H b (Own.lt c b e) (.inr (.inl ⟨r,⟨x,B⟩,e⟩))
 refine { C0:=?_,tms:=h.tms,bxs:=?_,dis:=h.dis,Fh:=h.Fh,HM:=h.HM,Gr:=h.Gr,bxR:=h.bxR,FD:=?_,rlt:=h.rlt,still:=h.still.trans X,defs:=h.defs,tsz:=h.tsz,pin:=h.pin}
 .intro r l q;obtain⟨v,J,c⟩:=h.C0 r l q;by_cases y:∃x,l=.ow x
  .obtain⟨x,rfl⟩:=y;exact⟨v,J,Own.frame c (j r ⟨x,q⟩)⟩
  .have I:∀x,l≠.ow x:=λx B=>y ⟨x,B⟩
   exact⟨v,J,B1.any I ((B1.any (fp':=λ_=>False) I c).tr (S':=S) (g':=g) (w':=w') (λY G=>⟨rfl,rfl,λ_ h=>h,j Y (c.alive G)⟩) (λ_ _=>rfl) (λ_ h=>h.elim) hR)⟩
 .intro id ls q;obtain⟨⟨E,hE⟩,L⟩:=h.bxs id ls q;exact⟨⟨E,(H _ (BB.1 hE).1 (.inr (.inr ⟨id,by simp[q],rfl⟩))).trans hE⟩,L⟩
 .intro b e;exact(hR b e).trans (h.FD b e)
def EZ(F:Fix)(S:St)(g:Gh)(b:Nat):Prop:=¬F.K b/\(∀r,CP S r->¬g.fp r b)/\∀id,(get S.bx id).isSome->b≠g.β id
theorem Inv.eK(h:Inv F S g a w){v}{S0}(X:d<F.N)(hp:S.EY d ⟨.one,[.ow x]⟩=some S')(hs:Still w w')
(hw:∀b,b<w.heap.size->¬EZ F S g b->w'.heap[b]?=w.heap[b]?)(ho:Own w' x v S0)(hS:∀b,S0 b->w.heap.size<=b\/EZ F S g b):∃g',Inv F S' g' (a.put (some d) v) w':=by
 have O:Inv F S g a w':=h.quiet hs λb e B=>hw b e (by
  rintro⟨l1,l2,l3⟩;rcases B with B|⟨r,J,B⟩|⟨id,j,rfl⟩
  .exact l1 B
  .exact l2 r J B
  .exact l3 id j rfl)
 have q:∀b,S0 b->EZ F S g b:=by
  intro b e;rcases hS b e with e|e
  .refine⟨λhK=>absurd (BY (h.rlt b hK) h.size) (by omega),?_,?_⟩
   .rintro r ⟨y,L⟩ Y;obtain⟨u,_,I⟩:=h.C0 r _ L;exact absurd (Own.lt I b Y) (by omega)
   .rintro id j rfl;obtain⟨ls,H⟩:=Br.1 j;obtain⟨⟨E,hE⟩,_⟩:=h.bxs id ls H;exact absurd (BB.1 hE).1 (by omega)
  .exact e
 refine O.EY (vs:=[v]) (nf:=λ_=>S0) hp X ⟨rfl,?_,?_⟩
 .intro c l G;cases c with|zero=>simp only[AN,AD]at G;subst G;exact⟨v,rfl,ho⟩|succ c=>simp at G
 .intro c y L;refine⟨λb e=>(q b e).1,λr J b e=>(q b e).2.1 r J,λid j e=>(q _ e).2.2 id j rfl,λc' y' hy' Z=>?_⟩
  grind
theorem Jj z  n :(A4 z n).size=n*z.size:=by simp[A4]
theorem Vx{P}{el}(h:NB P el=true):∃i z,P.info? el=some i/\i.zero=some z/\z.cells.size=i.size/\0<i.bytes:=by
 grind[NB]
def eS(v':Value)(w':World)(len n e:Nat)(news:List Value):Prop:=∃blk off cap,v'=.slice (some ⟨blk,off,none⟩) (len+n) cap/\∀k u,news[k]?=some u->w'.cell? ⟨blk,off+len*e+k,none⟩=some u
theorem zp(h:Inv F S g a w){d e:Nat}{t u ty el:TypeId}{xs ys:List (List T)}{c c':Nat->Nat->Value}{f f':Nat->Nat->Blk}{olds news:List Value}{ad:Option Addr}{sCap:Nat}{y:Value}
 (hd:d<F.N) (hp:S.EY d ⟨.one,[.ow (.sl e (xs++ys))]⟩=some S') (ht:F.P.underlying t=some (.slice el)) (hg:NB F.P el=true) (he:F8 F.P t e=true)
 (hx:CW w e xs c f olds) (hxs:O5 F.P w e (.slice ad xs.length sCap) xs.length olds) (hy:CW w e ys c' f' news) (hys:RD F.P w t u ty el e y ys.length news) (hroom:sCap<xs.length+ys.length) (hlim:xs.length+ys.length<=lim)
 (J:∀i j x i' j' x' b,at2 xs i j=some x->at2 ys i' j'=some x'->f i j b->¬f' i' j' b) (hl:∀i j x b,at2 xs i j=some x->f i j b->EZ F S g b) (hl':∀i j x b,at2 ys i j=some x->f' i j b->EZ F S g b) :
 ∃v w' g',(Bh #[t,u] ty #[.slice ad xs.length sCap,y]).run F.P w=.ok v w'/\Inv F S' g' (a.put (some d) v) w'/\(∀b,b<w.heap.size->w'.heap[b]?=w.heap[b]?)/\eS v w' xs.length ys.length e news:=by
 obtain⟨i,z,hi,hz,hzs,hb0⟩:=Vx hg;obtain⟨el',i',ht',O,X,hby,hpos⟩:=G9 he;rw[ht]at ht';cases ht';rw[hi]at O;cases O;have L:Cs (xs.length+ys.length) sCap*i.bytes<=281474976710656:=by
  have h1:=nextslicecap_le hroom;have h2:xs.length+ys.length<=268435456:=hlim
  calc Cs (xs.length+ys.length) sCap*i.bytes<=(2*268435456)*65536:=Nat.mul_le_mul (by omega) hby
   _<=281474976710656:=by omega
 have hrun:=hys.grow hi hz X hxs hroom hb0 L hlim;have hge:=grownCap_ge w (xs.length+ys.length) sCap el;have hA:=hx.app hy J;have Z:(xs++ys).length=xs.length+ys.length:=by simp
 have H:Fb (HA w el (olds.toArray++news.toArray++A4 z.cells (grownCap w (xs.length+ys.length) sCap el-(xs.length+ys.length)))) w.heap.size
  (olds.toArray++news.toArray++A4 z.cells (grownCap w (xs.length+ys.length) sCap el-(xs.length+ys.length))) el e:=.of LR
 have E:∀{cells:Array Value} {b:Nat},b<w.heap.size->(HA w el cells).heap[b]?=w.heap[b]?:=λq=>FG q
 have G:∀i j x b,at2 (xs++ys) i j=some x->(if i<xs.length then f i j else f' (i-xs.length) j) b->b<w.heap.size/\EZ F S g b:=by
  intro i j x b B q;refine⟨Own.lt (hA.cell i j x B).2 b q,?_⟩;rcases WU B with ⟨hi,I⟩|⟨hi,I⟩
  .rw[AW hi]at q;exact hl _ _ _ b I q
  .rw[AT (by omega)]at q;exact hl' _ _ _ b I q
 have hO:=hA.own (cap:=grownCap w (xs.length+ys.length) sCap el) (off:=0) H (by rw[Z];exact hge) (by
  simp only[EL,A1,Jj,hx.len,hy.len,hzs,X,Ar];rw[<-Bb,<-Bb];exact An _ (by omega)) (by
  intro k v Y;rw[Ar,DD]
  .simpa using Y
  .have:=(AP.1 Y).1;simpa using this) (by
  intro i j x B q;exact absurd (G i j x _ B q).1 (by omega)) (λi j x b B q=>E (G i j x b B q).1)
 obtain⟨g',hG⟩:=h.eK hd hp (w':=HA w el (olds.toArray++news.toArray++A4 z.cells (grownCap w (xs.length+ys.length) sCap el-(xs.length+ys.length)))) (by
  refine .old ?_ rfl rfl λb q=>E q
  show w.heap.size<=(w.heap.push _).size;rw[Array.size_push];omega) (λb q _=>E q) hO (by
  rintro b (rfl|⟨i,j,x,B,q⟩)
  .exact .inl (Ab _)
  .exact .inr (G i j x b B q).2)
 refine⟨_,_,g',hrun,by grind,λb q=>E q,_,_,_,rfl,λk u Y=>?_⟩;rw[H.cell,<-hx.len,Ar,DD,Array.getElem?_append_right (by simp),A1,IB,BS]
 .exact Y
 .have:=(AP.1 Y).1;simp only[EL,A1];omega
theorem AO1(h:Inv F S g a w){d e:Nat}{t u ty el:TypeId}{xs ys:List (List T)}{c c':Nat->Nat->Value}{f f':Nat->Nat->Blk}{olds news:List Value}{blk off sCap:Nat}{arr:Array Value}{E:TypeId}{y:Value}
 (hd:d<F.N) (hp:S.EY d ⟨.one,[.ow (.sl e (xs++ys))]⟩=some S') (ht:F.P.underlying t=some (.slice el)) (he:F8 F.P t e=true)
 (hx:CW w e xs c f olds) (hr:Fb w blk arr E e) (hsz:off+sCap*e<=arr.size) (hat:∀k u,olds[k]?=some u->arr[off+k]?=some u) (hy:CW w e ys c' f' news) (hys:RD F.P w t u ty el e y ys.length news) (hroom:xs.length+ys.length<=sCap)
 (O:∀i j x i' j' x' b,at2 xs i j=some x->at2 ys i' j'=some x'->f i j b->¬f' i' j' b) (hl:∀i j x b,at2 xs i j=some x->f i j b->EZ F S g b/\b≠blk) (hl':∀i j x b,at2 ys i j=some x->f' i j b->EZ F S g b/\b≠blk)
 (B:EZ F S g blk) :
 ∃v w' g',(Bh #[t,u] ty #[.slice (some ⟨blk,off,none⟩) xs.length sCap,y]).run F.P w=.ok v w'/\Inv F S' g' (a.put (some d) v) w'/\(∀b,b≠blk->w'.heap[b]?=w.heap[b]?)/\eS v w' xs.length ys.length e news:=by
 obtain⟨el',i,ht',hi,his,hby,hpos⟩:=G9 he;rw[ht]at ht';cases ht';have hA:=hx.app hy O;have X:(xs++ys).length=xs.length+ys.length:=by simp
 have Y:(xs.length+ys.length)*e<=sCap*e:=An _ hroom;rw[Bb]at Y;have q:off+xs.length*e+news.length<=arr.size:=by rw[hy.len];omega
 have Z:=hys.room (sCap:=sCap) hroom hr q hy.one;have H:∀i j x b,at2 (xs++ys) i j=some x->(if i<xs.length then f i j else f' (i-xs.length) j) b->EZ F S g b/\b≠blk:=by
  intro i j x b G B;rcases WU G with ⟨hi,L⟩|⟨hi,L⟩
  .rw[AW hi]at B;exact hl _ _ _ b L B
  .rw[AT (by omega)]at B;exact hl' _ _ _ b L B
 have hO:=hA.own (cap:=sCap) (off:=off) (w':=w.setRow blk (arr.toList.take (off+xs.length*e)++news++arr.toList.drop (off+xs.length*e+news.length)).toArray) (hr.set (by simp;omega)) (by rw[X];exact hroom) (by simp;omega) (by
  intro k v J;have I:=GO arr.toList (off+xs.length*e) news (by simpa using q) (off+k);rw[K1 _ _ _ (by simpa using q)]at I;simp only[BS];rw[I];by_cases hk':k<olds.length
  .rw[BN hk']at J;have:=hx.len;rw[AT (by omega)];simpa using hat k v J
  .rw[BH (by omega)]at J;have h1:=hx.len;have h2:=(AP.1 J).1;rw[AW (by omega)];rw[<-J];congr 1;omega) (λi j x G B=>(H i j x _ G B).2 rfl) (λi j x b G B=>setRow_other (H i j x b G B).2)
 obtain⟨g',hG⟩:=h.eK hd hp (w':=w.setRow blk (arr.toList.take (off+xs.length*e)++news++arr.toList.drop (off+xs.length*e+news.length)).toArray) (by
  exact Still.setRow) (λb _ hnl=>setRow_other (by rintro rfl;exact hnl B)) hO (by
  rintro b (rfl|⟨i,j,x,G,B⟩)
  .exact .inr B
  .exact .inr (H i j x b G B).1)
 refine⟨_,_,g',Z,by grind,λb B=>setRow_other B,_,_,_,rfl,λk u J=>?_⟩;rw[(hr.set (by simp;omega)).cell,BS,<-K1 _ _ _ (by simpa using q),GO _ _ _ (by simpa using q)];have:=(AP.1 J).1;rw[AW (by omega),<-J];congr 1;omega
theorem AMk{r:CL}(h:Inv F S g a w)(e:S.at r=some (.ow x))(q:g.fp r b):EZ F (S.out r) g b:=by
 refine⟨h.HM r ⟨_,e⟩ b q,λr' E c=>?_,λid y c=>?_⟩
 .obtain⟨B,j⟩:=Ix e E;exact h.dis r r' ⟨_,e⟩ j (Ne.symm B) b q c
 .subst c;exact h.Fh r id ⟨_,e⟩ (V5 y) q
theorem AD3{P}{w}{e}:O5 P w e (.slice none 0 0) ([]:List (List T)).length []:=
 ⟨λw'=>by simp[Bd],by simp[BU],by simp[BU]⟩
theorem Vc(h:Inv F S g a w){d e:Nat}{t u ty el:TypeId}{ys:List (List T)}{Z:Nat->Nat->Value}{I:Nat->Nat->Blk}{news:List Value}{y:Value}
 (J:d<F.N) (O:S.EY d ⟨.one,[.ow (.sl e ys)]⟩=some S') (X:F.P.underlying t=some (.slice el)) (hg:NB F.P el=true) (L:F8 F.P t e=true)
 (Y:CW w e ys Z I news) (E:RD F.P w t u ty el e y ys.length news) (hlim:ys.length<=lim) (G:∀i j x b,at2 ys i j=some x->I i j b->EZ F S g b) :
 ∃v w' g',(Bh #[t,u] ty #[.slice none 0 0,y]).run F.P w=.ok v w'/\Inv F S' g' (a.put (some d) v) w'/\(∀b,b<w.heap.size->w'.heap[b]?=w.heap[b]?)/\(ys≠[]->∃n,eS v w' n ys.length e news):=by
 cases ys with
 |nil=>
  obtain⟨el',i,B,hi,his,_,_⟩:=G9 L;rw[X]at B;cases B;have hn:news=[]:=by
   have:=Y.len;simp at this;exact List.eq_nil_of_length_eq_zero (by simpa using this)
  subst hn;have q:=E.nil rfl rfl;obtain⟨g',hG⟩:=h.eK (w':=w) (x:=.sl e []) (v:=.slice none 0 0) (S0:=λ_=>False) J O Still.refl (λ_ _ _=>rfl) (.nl (by simp)) (λ_ hb=>hb.elim);exact⟨_,_,g',q,hG,λ_ _=>rfl,λh=>(h rfl).elim⟩
 |cons r rs=>
  obtain⟨v,w',g',r1,r2,r3,r4⟩:=zp (ty:=ty) h (xs:=[]) (c:=λ_ _=>undef) (f:=λ_ _ _=>False) (olds:=[]) (sCap:=0) J O X hg L .nil AD3 Y E (by simp) (by simpa using hlim)
   (by intro i j x i' j' x' b H;simp[at2]at H) (by intro i j x b H;simp[at2]at H) G
  exact⟨v,w',g',r1,r2,r3,λ_=>⟨_,r4⟩⟩
theorem EZ.out{r:CL}(h:EZ F S g b)(j:S.at r=some (.ow x)):EZ F (S.out r) g b:=
 ⟨h.1,λr' e=>h.2.1 r' (Ix j e).2,λid c=>h.2.2 id (V5 c)⟩
theorem EZ.tg(h:EZ F S g b)(hT:JM F S S' g g' a w):EZ F S' g' b:=
 ⟨h.1,λr' e j=>h.2.1 r' (hT.al r' e) (hT.fp r' b j),λid c=>by rw[hT.β];exact h.2.2 id (hT.bx id c)⟩
theorem ALe(h:Inv F S2 g a w){v:Value}{d e:Nat}{xs ys:List (List T)}{S0:Blk}{t u ty el:TypeId}{c':Nat->Nat->Value}{f':Nat->Nat->Blk}{news:List Value}{y:Value}
 (hO:Own w (.sl e xs) v S0) (hl:∀b,S0 b->EZ F S2 g b) (hlim:xs.length+ys.length<=lim) (hd:d<F.N) (hp:S2.EY d ⟨.one,[.ow (.sl e (xs++ys))]⟩=some S') (ht:F.P.underlying t=some (.slice el))
 (hg:NB F.P el=true) (he:F8 F.P t e=true) (hy:CW w e ys c' f' news) (J:RD F.P w t u ty el e y ys.length news) (G:∀i j x b,at2 ys i j=some x->f' i j b->EZ F S2 g b/\¬S0 b) :
 ∃H w' g',(Bh #[t,u] ty #[v,y]).run F.P w=.ok H w'/\Inv F S' g' (a.put (some d) H) w'/\(∀b,b<w.heap.size->¬S0 b->w'.heap[b]?=w.heap[b]?)/\(ys≠[]->∃n,eS H w' n ys.length e news):=by
 obtain⟨rfl,rfl⟩|⟨c,f,olds,blk,off,cap,arr,E,rfl,q2,q3,q4,q5,q6,q7,q8,q9⟩:=AXi (P:=F.P) hO
 .obtain⟨H,w',g',L,O,X,Y⟩:=Vc (ty:=ty) h hd (by simpa using hp) ht hg he hy J (by simpa using hlim) λi j x b q B=>(G i j x b q B).1
  exact⟨H,w',g',L,O,λb B _=>X b B,Y⟩
 have I:∀i j x Z j' x' b,at2 xs i j=some x->at2 ys Z j'=some x'->f i j b->¬f' Z j' b:=
  λi j x Z j' x' b q hyy B hb'=>(G Z j' x' b hyy hb').2 (q9 i j x b q B).1
 by_cases hroom:xs.length+ys.length<=cap
 .obtain⟨H,w',g',L,O,X,Y⟩:=AO1 (ty:=ty) h hd hp ht he q5 q3 q4 q7 hy J hroom I (λi j x b q B=>⟨hl b (q9 i j x b q B).1,(q9 i j x b q B).2⟩)
   (λi j x b q B=>⟨(G i j x b q B).1,by rintro rfl;exact(G i j x _ q B).2 q8⟩) (hl _ q8)
  exact⟨H,w',g',L,O,λb _ hn=>X b (by rintro rfl;exact hn q8),λ_=>⟨_,Y⟩⟩
 .obtain⟨H,w',g',L,O,X,Y⟩:=zp (ty:=ty) h hd hp ht hg he q5 q6 hy J (by omega) hlim I (λi j x b q B=>hl b (q9 i j x b q B).1) λi j x b q B=>(G i j x b q B).1
  exact⟨H,w',g',L,O,λb B _=>X b B,λ_=>⟨_,Y⟩⟩
theorem z7(h:Inv F S g a w){lx:AS}{v:Value}(X:B1 F S g w (λ_=>False) lx v)(hT:SS F S S1 g a w){d e n:Nat}{b:T}{t u ty el:TypeId}{ys:List (List T)}{c':Nat->Nat->Value}{f':Nat->Nat->Blk}{news:List Value}{y:Value}
 (c:SU e S1 lx=some (S2,b,n)) (hlim:n+ys.length<=lim) (hd:d<F.N) (hp:S2.EY d ⟨.one,[.ow (AL3 e b ys)]⟩=some S') (ht:F.P.underlying t=some (.slice el))
 (hg:NB F.P el=true) (he:F8 F.P t e=true) (hy:CW w e ys c' f' news) (J:RD F.P w t u ty el e y ys.length news) (E:∀i j x b,at2 ys i j=some x->f' i j b->EZ F S1 g b) :
 ∃H w' g',(Bh #[t,u] ty #[v,y]).run F.P w=.ok H w'/\Inv F S' g' (a.put (some d) H) w'/\(∀b,b<w.heap.size->(∀r,lx.B8=some r->¬g.fp r b)->w'.heap[b]?=w.heap[b]?)/\(ys≠[]->∃n,eS H w' n ys.length e news):=by
 unfold SU at c;split at c
 .simp only[AD,A6]at c;obtain⟨rfl,rfl,rfl⟩:=c;have hv:v=.slice none 0 0:=X;subst hv;obtain⟨H,w',g',Y,Z,r3,r4⟩:=Vc (ty:=ty) hT.inv hd hp ht hg he hy J (by omega) E;exact⟨H,w',g',Y,Z,λb c _=>r3 b c,r4⟩
 .rename_i r sub;split at c
  .rename_i x O;obtain⟨x',uv,h1,h2,h3⟩:=X;have I:=hT.same r _ O;rw[h1]at I;cases I;obtain⟨u',hu',hown⟩:=h.C0 r _ h1;rw[h2]at hu';cases hu';obtain⟨S0,hS0,hO⟩:=R3 hown h3;split at c
   .rename_i zs G;split at c
    .rename_i hc;simp only[AD,A6]at c;obtain⟨rfl,rfl,rfl⟩:=c;have L:=hT.inv.out O;have hl2:∀i j x b,at2 ys i j=some x->f' i j b->EZ F (S1.out r) g b:=λi j x b B c=>(E i j x b B c).out O
     have hne:∀i j x b,at2 ys i j=some x->f' i j b->¬g.fp r b:=λi j x b B c=>(E i j x b B c).2.1 r ⟨_,O⟩
     cases x with
     |sl e' xs0=>
      simp only[content,AD]at G;subst G;simp only[eOf,beq_iff_eq]at hc;obtain⟨rfl,_⟩:=hc;obtain⟨H,w',g',Y,Z,r3,r4⟩:=ALe (ty:=ty) (xs:=KF sub xs0) L hO (λb c=>AMk hT.inv O (hS0 b c)) hlim hd hp ht hg he hy J (λi j x b B c=>⟨hl2 i j x b B c,λq=>hne i j x b B c (hS0 b q)⟩);exact⟨H,w',g',Y,Z,λb c hr=>r3 b c λq=>hr r rfl (hS0 b q),r4⟩
     |nil=>
      simp only[content,AD]at G;subst G;have hv:v=.slice none 0 0:=by
       cases hO with
       |sc hs _ _=>exact hs
      subst hv;obtain⟨H,w',g',Y,Z,r3,r4⟩:=Vc (ty:=ty) L hd hp ht hg he hy J (by omega) hl2;exact⟨H,w',g',Y,Z,λb c _=>r3 b c,r4⟩
     |_=>simp[content]at G
    .cases c
   .cases c
  .cases c
 .rename_i r i j e' xs;split at c
  .rename_i hee;subst hee;split at c
   .rename_i S3 hpl;simp only[AD,A6]at c;obtain⟨rfl,rfl,rfl⟩:=c;obtain⟨hal,_,k⟩:=X;obtain⟨e0,rows,O,_⟩:=Ol hpl;have I:=hT.same r _ O;obtain⟨e1,rows1,blk,off,len,cap,k1,k2,k3,k4,k5⟩:=k;rw[I]at k1;cases k1;obtain⟨S0,g1,q1,q2,q3,q4,q5,q6,q7⟩:=hT.inv.pull hpl ⟨_,_,blk,off,len,cap,O,k2,k3,k4,k5⟩;have hloose:∀b,S0 b->EZ F S3 g1 b:=λb c=>
     ⟨hT.inv.HM r q7 b (q3 b c),λr' hr' q=>by
      by_cases hrr:r'=r
      .subst hrr;exact q4 b c q
      .exact hT.inv.dis r r' q7 (q1.al r' hr') (Ne.symm hrr) b (q3 b c) (q1.fp r' b q),λid hid q=>by
      rw[q1.β]at q;subst q;exact hT.inv.Fh r id q7 (q1.bx id hid) (q3 _ c)⟩
    obtain⟨H,w',g',Y,Z,r3,r4⟩:=ALe (ty:=ty) q1.inv q2 hloose hlim hd hp ht hg he hy J (λi j x b B c=>⟨(E i j x b B c).tg q1,λq=>(E i j x b B c).2.1 r q7 (q3 b q)⟩);exact⟨H,w',g',Y,Z,λb c hr=>r3 b c λq=>hr r rfl (q3 b q),r4⟩
   .cases c
  .cases c
 .cases c
theorem yN(h:Inv F S g a w){e:Nat}{fl:Bool}{t u ty el:TypeId}{dd:TypeDesc}{x y:Opd}(hd:d<F.N)(c:ev (.app d e fl x y) S=some S')(hoa:CH oa x=true)(hob:CH ob y=true)
 (Y:∀p∈CI oa x,Mt F.A F.P p.1 p.2) (Z:∀p∈CI ob y,Mt F.A F.P p.1 p.2) (he:F8 F.P t e=true) (ht:F.P.underlying t=some (.slice el)) (hg:NB F.P el=true) (hu:F.P.underlying u=some dd) (G:dd=.string\/∃e',dd=.slice e') :
 ∃v w' g',(Bh #[t,u] ty #[a.eval oa,a.eval ob]).run F.P w=.ok v w'/\Inv F S' g' (a.put (some d) v) w'/\(∀b,b<w.heap.size->(∀l r,S.one x=some l->l.B8=some r->¬g.fp r b)->w'.heap[b]?=w.heap[b]?)/\∀n news,O5 F.P w e (a.eval ob) n news->n≠0->∃m,eS v w' m n e news:=by
 obtain⟨el',i,E,hi,I,_,_⟩:=G9 he;rw[ht]at E;cases E;simp only[ev]at c;split at c
 .rename_i lx ly hx hy;split at c
  .rename_i S1 ys hs;split at c
   .rename_i S2 b n q;split at c
    .rename_i hlim;obtain⟨O,_⟩:=Gm h hx hoa Y;obtain⟨X,_⟩:=Gm h hy hob Z;obtain⟨hT,c',f',news,hC,hS,J⟩:=AZ3 h X hs;obtain⟨v',w',g',r1,r2,r3,r4⟩:=z7 (ty:=ty) h O hT q hlim hd c ht hg he hC (hS.app ht hi I hu G) λi j x b B q=>⟨(J i j x b B q).1,(J i j x b B q).2.1,λid H=>(J i j x b B q).2.2 id (hT.bx id H)⟩
     refine⟨v',w',g',r1,r2,λb q hr=>r3 b q λr L=>hr lx r hx L,λn news hN h0=>?_⟩;have e1:=(hN.len w).symm.trans (hS.len w);cases e1;have e2:=hN.first.symm.trans hS.first
     simp only[Result.ok.injEq,and_true]at e2;rw[show news=_ from congrArg Array.toList e2];exact r4 (by rintro rfl;exact h0 rfl)
    .cases c
   .cases c
  .cases c
 .cases c
theorem yO(h:Inv F S g a w){t u ty el:TypeId}{k0:IntKind}{q:List T}{x y:Opd}(hd:d<F.N)(c:ev (.Sl d q x y) S=some S')(hoa:CH oa x=true)(hob:CH ob y=true)
 (hma:∀p∈CI oa x,Mt F.A F.P p.1 p.2) (hmb:∀p∈CI ob y,Mt F.A F.P p.1 p.2) (he:F8 F.P t q.length=true) (ht:F.P.underlying t=some (.slice el)) (hg:NB F.P el=true) (hz:AEc F.P el q=true) (hu:F.P.underlying u=some (.int k0)) :
 ∃v w' g',(Bh #[t,u] ty #[a.eval oa,a.eval ob]).run F.P w=.ok v w'/\Inv F S' g' (a.put (some d) v) w'/\∀b,b<w.heap.size->(∀l r,S.one x=some l->l.B8=some r->¬g.fp r b)->w'.heap[b]?=w.heap[b]?:=by
 obtain⟨el',i,L,hi,B,Y,J⟩:=G9 he;rw[ht]at L;cases L;obtain⟨i2,z,G,hzv,his2,e,hzc⟩:=Yl (w:=w) hz;rw[hi]at G;cases G;simp only[ev]at c;split at c
 .rename_i lx m X hm;obtain⟨k,hk⟩:=Tq h hm hob hmb;split at c
  .rename_i hc;obtain⟨Z,hc1⟩:=hc;split at c
   .rename_i S2 b n E;split at c
    .rename_i hlim;obtain⟨hlx,_⟩:=Gm h X hoa hma;have hC0:CW w q.length (rowsOf m.toNat q) (λi j=>((A4 z.cells m.toNat)[i*q.length+j]?).getD undef) (λ_ _ _=>False) (A4 z.cells m.toNat).toList:=by
      refine⟨by simp[Jj,rowsOf,e],by intro row O;simp[rowsOf]at O;rw[O.2],?_,by simp⟩;intro i j x X;obtain⟨hi,hj⟩:=ee X;obtain⟨v,hv',hs⟩:=hzc j x hj;have hjl:j<q.length:=(AP.1 hj).1;have I:(i+1)*q.length<=m.toNat*q.length:=An _ hi;rw[Bb,Dk]at I;have hmm:(A4 z.cells m.toNat)[i*q.length+j]?=some v:=by
       have hlt:i*q.length+j<m.toNat*z.cells.size:=by rw[e];omega
       have H:(i*q.length+j) % z.cells.size=j:=by rw[e,GV,Nat.mul_add_mod];exact Nat.mod_eq_of_lt hjl
       have hg:z.cells[j]! = v:=by
        rw[Array.getElem!_eq_getD,C8,hv'];rfl
       simp only[A4,Array.getElem?_map,Array.getElem?_range,AW hlt,Ap,H,hg]
      rw[DL,hmm];exact⟨rfl,hs⟩
     have hA:RD F.P w t u ty el q.length (.int k m) (rowsOf m.toNat q).length (A4 z.cells m.toNat).toList:=by
      have:=AFI (P:=F.P) (w:=w) (ty:=ty) (k:=k) ht hi hzv hu Z hc1 Y (by rw[B];exact J) (by rw[e,B]);rw[B]at this;simpa[rowsOf] using this
     rw[hk];obtain⟨v',w',g',r1,r2,r3,r4⟩:=z7 (ty:=ty) h hlx ⟨h,λ_ _ h=>h,λ_ h=>h,rfl⟩ E (by simpa[rowsOf] using hlim) hd c ht hg he hC0 hA (λ_ _ _ _ _ E=>E.elim);exact⟨v',w',g',r1,r2,λb E O=>r3 b E λr hlr=>O lx r X hlr⟩
    .cases c
   .cases c
  .cases c
 .cases c
end
theorem z8{xs}{e:List UInt8}(h:bytesOf xs=some e):∃ns:List Int,xs=ns.map (λn=>[T.int .u8 n])/\e=ns.map λn=>UInt8.ofNat n.toNat:=by
 induction xs generalizing e with
 |nil=>simp only[bytesOf,AD]at h;subst h;exact⟨[],rfl,rfl⟩|cons x xs E=>
  simp only[bytesOf]at h;split at h
  .rename_i b q c j;cases h;obtain⟨ns,y,B⟩:=E j;unfold byteOf at c;split at c
   .rename_i n;cases c;exact⟨n::ns,by simp[y],by simp[B]⟩
   .cases c
  .cases h
theorem foldl_push f(ns:List Int)(r:ByteArray):ns.foldl (λr n=>r.push (f n)) r=⟨r.data++(ns.map f).toArray⟩:=by
 induction ns generalizing r with
 |nil=>simp|cons n ns c=>rw[Bw,c];simp[ByteArray.push]
section
variable{F:Fix}{S S':St}{g g':Gh}{a a':Act}{w w':World}
theorem yP(h:Inv F S g a w){d:Nat}{s t:TypeId}{o:Operand}{x:Opd}(hd:d<F.N)(q:ev (.Pk d x) S=some S')(ho:CH o x=true)(hm:∀p∈CI o x,Mt F.A F.P p.1 p.2)(E:Rq F.P s=true)(ht:isStr F.P t=true) :
 ∃v g',(∀w1,AOo (a.eval o) w w1->(convert s t (a.eval o)).run F.P w1=.ok v w1)/\Inv F S' g' (a.put (some d) v) w:=by
 simp only[ev]at q;split at q
 .rename_i l hl;split at q
  .rename_i xs hxs;split at q
   .rename_i bs hbs;obtain⟨hlx,_⟩:=Gm h hl ho hm;unfold isStr at ht;split at ht
    .rename_i I;unfold Rq at E;split at E
     .rename_i el H;simp only[AF]at E;obtain⟨y,_⟩:=E;unfold isInt at y;split at y
      .rename_i k G;simp only[decide_eq_true_eq]at y;subst y;obtain⟨ns,B,h2⟩:=z8 hbs;have X:∀w1,AOo (a.eval o) w w1->(convert s t (a.eval o)).run F.P w1=.ok (.string ⟨bs.toArray⟩) w1:=by
        intro w1 J;rcases Vj h hlx hxs with ⟨hx0,hv⟩|⟨e,hV,_⟩
        .subst hx0;have:ns=[]:=by simpa using B.symm
         subst this;rw[hv,run_convert_bytes_string w1 s t el none 0 0 H G I];subst h2;simp[Conv.bytesToString,Ay];rfl
        .have hflat:HF xs=true:=by subst B;simp[HF,flat]
         have hV:View w1 (λ_=>True) (.sl e xs) (a.eval o):=by
          revert J;generalize a.eval o=v at hV;intro J;cases hV with
          |sc h=>exact h.elim|nl=>exact .nl|@sl _ _ ad len cap Z q1 q2 Y q4 q5 q6=>
           refine .sl Z q1 q2 Y q4 ?_ ?_
           .intro i j x L;rw[JW (J ad.block rfl)];exact q5 i j x L
           .intro i j x L;have hf:=RV hflat L;have hq:=q6 i j x L;revert hq;generalize Z i j=u;intro hq;cases hq with|sc E=>exact .sc E|sl=>simp[flat]at hf|nl=>simp[flat]at hf|mp=>simp[flat]at hf
         obtain⟨c,vs,hC,hS⟩:=oW (P:=F.P) hV hflat;generalize hv:a.eval o=v at *;cases hV with
         |sc h=>exact h.elim|nl=>
          have:ns=[]:=by simpa using B.symm
          subst this;rw[run_convert_bytes_string w1 s t el none 0 0 H G I];subst h2;simp[Conv.bytesToString,Ay];rfl
         |@sl _ _ ad len cap Z q1 q2 Y q4 q5 q6=>
          rw[run_convert_bytes_string w1 s t el (some ad) len cap H G I];have hload:=hS.first
          have hvs:vs=ns.map (Value.int .u8):=by
           apply List.ext_getElem?;intro i;cases hi:ns[i]? with
           |none=>
            have h3:ns.length<=i:=List.getElem?_eq_none_iff.1 hi;have h4:vs.length=ns.length*e:=by rw[hC.len,B,Ac]
            have hA:(ns.map (Value.int .u8))[i]?=none:=De (by simpa using h3);rw[hA,De];cases ns with
            |nil=>have h5:vs.length=0:=by simpa using h4
                  omega
            |cons n ns=>
             have:=Y [.int .u8 n] (by rw[B];simp);have he1:e=1:=by simpa using this.symm
             rw[he1,Ke]at h4;omega
           |some n=>
            have L:at2 xs i 0=some (.int .u8 n):=by simp[at2,B,hi]
            have he:e=1:=by
             have:=Y [.int .u8 n] (by rw[B];exact Ej.2 ⟨n,Au hi,rfl⟩);simpa using this.symm
            subst he;obtain⟨r1,r2⟩:=hC.cell i 0 _ L;rw[Ke,C9]at r1;rw[r1];cases r2 with
            |sc E _ _=>have:c i 0=.int .u8 n:=E;simp[this,hi]
          have O:len*e=len:=by
           cases ns with
           |nil=>subst B;simp at q1;subst q1;simp|cons n ns=>
            have:=Y [.int .u8 n] (by rw[B];simp);simp at this;subst this;simp
          simp only[BU]at hload;rw[<-q1,O,hvs]at hload;rw[run_bytesToString w1 ad len cap ns hload,foldl_push,h2];simp
       obtain⟨g',hg⟩:=LS (v:=.string ⟨bs.toArray⟩) h hd q rfl;exact⟨_,g',X,hg⟩
      .cases y
     .cases E
    .cases ht
   .cases q
  .cases q
 .cases q
theorem ALN(h:Inv F S g a w) ks :Inv F (S.Ir ks) g a w:=by
 have H:∀r l',(S.Ir ks).at r=some l'->∃l,S.at r=some l/\l'=(if aI ks l then .t .top else l):=by
  intro r l' B;cases r with
  |tmp s c=>
   grind[St.at,St.Ir,FZ,ME,get,G1,Option.map_eq_some_iff]
  |cell b c=>
   grind[St.at,St.Ir,DY,get,G1,Option.map_eq_some_iff]
 have G:∀r x,S.at r=some (.ow x)->(match r with|.tmp s _=>s∉ks|.cell _ _=>True)->(S.Ir ks).at r=some (.ow x):=by
  intro r x q E;cases r with
  |tmp s c=>
   simp only[St.at,St.Ir,FZ,ME]at q E ⊢;simp only[E,if_false];cases y:get S.tm s with
   |none=>simp[y]at q|some e=>simp only[y]at q;simp[G1,q,aI,AS.B8]
  |cell b c=>
   simp only[St.at,St.Ir,DY]at q E ⊢;cases y:get S.bx b with
   |none=>simp[y]at q|some e=>simp only[y]at q;simp[G1,q,aI,AS.B8]
 refine h.weaken ?_ ?_ ?_ rfl
 .intro s I j;simp only[St.Ir,FZ,ME,AO]at j;obtain⟨e,j,rfl⟩:=j;split at j
  .cases j
  .exact⟨e,j,rfl,Fa _ _⟩
 .intro id ls' B;simp only[St.Ir,DY,AO]at B;obtain⟨e,j,rfl⟩:=B;exact⟨e,j,Fa _ _⟩
 grind[aI]
end
section
variable{F:Fix}{S S' S1:St}{g g':Gh}{a a':Act}{w w':World}
theorem CW.set{e i:Nat}{xs:List (List T)}{cs:List T}{c:Nat->Nat->Value}{f:Nat->Nat->Blk}{vs us:List Value}{nf:Nat->Blk}(h:CW w e xs c f vs)(hi:i<xs.length)(hl:cs.length=e)
 (hu:us.length=e) (ho:∀(m:Nat) x,cs[m]?=some x->∃v,us[m]?=some v/\Own w x v (nf m)) (hd:∀m m' b,m<cs.length->m'<cs.length->m≠m'->nf m b->¬nf m' b)
 (hx:∀i j x m b,at2 xs i j=some x->m<cs.length->f i j b->¬nf m b) :
 CW w e (xs.set i cs) (λH j=>if H=i then us.getD j undef else c H j) (λH j=>if H=i then nf j else f H j) (EC vs (i*e) us):=by
 have I:(i+1)*e<=xs.length*e:=An _ hi;rw[Bb,Dk]at I;have hg:=GO vs (i*e) us (by rw[h.len,hu];exact I);have q:∀row∈xs.set i cs,row.length=e:=by
  intro row hr;rcases List.mem_or_eq_of_mem_set hr with hr|rfl
  .exact h.row row hr
  .exact hl
 refine⟨by rw[Oz,h.len,List.length_set],q,?_,?_⟩
 .intro H j x E;have hj:j<e:=PE E q;rw[dU hi]at E;rw[hg];by_cases G:H=i
  .subst G;rw[AW rfl]at E;obtain⟨v,hv,hO⟩:=ho j x E;simp only[if_true];rw[AW (by omega),show H*e+j-H*e=j from by omega,hv];refine⟨by simp[List.getD,hv],?_⟩;have:us.getD j undef=v:=by simp[List.getD,hv]
   rw[this];exact hO
  .rw[AT G]at E;simp only[AT G];obtain⟨q1,q2⟩:=h.cell H j x E;refine⟨?_,q2⟩;rw[AT]
   .exact q1
   .intro hh;rcases Nat.lt_or_gt_of_ne G with Z|Y
    .have:(H+1)*e<=i*e:=An _ Z;rw[Bb,Dk]at this;omega
    .have:(i+1)*e<=H*e:=An _ Y;rw[Bb,Dk]at this;omega
 .intro i1 j1 x1 i2 j2 x2 y B O b;have hj1:j1<e:=PE y q;have hj2:j2<e:=PE B q;rw[dU hi]at y B;by_cases G:i1=i<;>by_cases J:i2=i
  .simp only[AW G,AW J];exact hd j1 j2 b (by omega) (by omega) (O (G.trans J.symm))
  .rw[AT J]at B;simp only[AW G,AT J];exact λX L=>hx _ _ _ j1 b B (by omega) L X
  .rw[AT G]at y;simp only[AT G,AW J];exact λX L=>hx _ _ _ j2 b y (by omega) X L
  .rw[AT G]at y;rw[AT J]at B;simp only[AT G,AT J];exact h.dis _ _ _ _ _ _ y B O b
theorem AYI{e n}:∀(ps:List (Nat×Operand)) (qs:List (Nat×Opd)) (S S':St) (g:Gh) (xs ys:List (List T)) (c:Nat->Nat->Value) (f:Nat->Nat->Blk) (cells:Array Value),Inv F S g a w->Np ps qs=true ->
 (∀p∈Qv ps qs,Mt F.A F.P p.1 p.2)->bsK e n S xs qs=some (S',ys)->xs.length=n->CW w e xs c f cells.toList->(∀i j x b,at2 xs i j=some x->f i j b->EZ F S g b) ->
  ∃g2,JM F S S' g g2 a w/\ys.length=n/\∃c' f' cells',Instr.fill (λi=>some (i*e,e)) cells (ps.map λp=>(p.1,a.eval p.2))=some cells'/\CW w e ys c' f' cells'.toList/\∀i j x b,at2 ys i j=some x->f' i j b->EZ F S' g2 b
 | [],qs,S,S',g,xs,ys,c,f,cells,h,G,_,B,hn,hC,J=>by
  cases qs<;>simp[Np]at G;simp only[bsK,AD,A6]at B;obtain⟨rfl,rfl⟩:=B;exact⟨g,SS.toG ⟨h,λ_ _ h=>h,λ_ h=>h,rfl⟩,hn,c,f,cells,rfl,hC,J⟩
 |(i,o)::ps,qs,S,S',g,xs,ys,c,f,cells,h,G,hm,B,hn,hC,J=>by
  match qs,G with
  |(i',x)::qs,G=>
   simp only[Np,AF,beq_iff_eq]at G;obtain⟨⟨rfl,ho⟩,G⟩:=G;simp only[bsK]at B;split at B
   .rename_i en hen;split at B
    .rename_i hc;obtain⟨c1,c2,c3⟩:=hc;split at B
     .rename_i S1 cs hown;obtain⟨vs,h1,h2,h3,h4⟩:=Oq h hen ho λp I=>hm p (by simp[Qv,I])
      obtain⟨g1,htaken,nf,hT,hnf⟩:=YY h h3 h2 (by
       intro c l J;obtain⟨u,hu,Z⟩:=h4 c l J;exact⟨u,hu,λ_ _ _=>Z,λ_=>Z⟩) hown
      obtain⟨t1,t2,t3,t4,t5,t6⟩:=hT;have hone:∀v∈vs,v.oneCell'=true:=by
       intro v hv;obtain⟨c,hc⟩:=B2 hv;have hlt:c<cs.length:=by rw[<-t1];exact(AP.1 hc).1
       obtain⟨v',hv',ho⟩:=t2 c cs[c] (by simp[hlt]);rw[hc]at hv';cases hv';exact ho.one
      have O:=aZ c2 h2 hone;have hsz:(a.eval o).cells.size=e:=by rw[h1,<-Bg,O,h2,c1]
      have X:cs.length=e:=by rw[<-t1,h2,c1]
      have E:=hC.set (nf:=nf) (us:=vs) (by omega:i<xs.length) X (by omega) t2 t6 (by
       intro i' L x' m b y hm' hb1 hb2;obtain⟨_,r,_,_,hr,hb3⟩:=hnf m b hm' hb2;exact(J i' L x' b y hb1).2.1 r hr hb3)
      have hfold:((a.eval o).cells.zipIdx.foldl (λcs (p:Value×Nat)=>cs.setIfInBounds (i*e+p.2) p.1) cells).toList=EC cells.toList (i*e) vs:=by
       rw[<-Js,JN,h1,O];exact RX _ (i*e) 0 cells
      rw[<-hfold]at E;obtain⟨g2,r1,r2,c',f',cells',hfill,r3,r4⟩:=AYI ps qs S1 S' g1 _ ys _ _ _ htaken.inv G (λp I=>hm p (by simp[Qv,I])) B (by simpa using hn) E (by
       intro i' L x' b y q;have hj:L<e:=PE y E.row;rw[dU (by omega)]at y;by_cases H:i'=i
       .simp only[AW H]at q;exact⟨t3 L b (by omega) q,λr hr=>t4 L r b (by omega) hr q,λid hid hbe=>t5 L id (by omega) hid (hbe▸q)⟩
       .rw[AT H]at y;simp only[AT H]at q;exact(J _ _ _ b y q).tg htaken)
      refine⟨g2,htaken.trans r1,r2,c',f',cells',?_,r3,r4⟩;have hcell:cells.size=xs.length*e:=by rw[<-Bg];exact hC.len
      have Y:(i+1)*e<=xs.length*e:=An _ (by omega);rw[Bb,Dk]at Y;simp only[AK,Instr.fill];rw[AT (by simp[hsz];omega)];exact hfill
     .cases B
    .cases B
   .cases B
theorem nZ{P:Program}{t el:TypeId}{i:TypeInfo}{z:Value}{n:Nat}{parts:Array (Nat×Value)}{cells':Array Value}(q:P.underlying t=some (.slice el))(hi:P.info? el=some i)(y:i.zero=some z)(B:n*i.size<=16777216)
 (hfill:Instr.fill (λk=>some (k*i.size,i.size)) (madeCells z.cells (n*i.size)) parts.toList=some cells') :
 (Instr.buildSlice t n parts).run P w=.ok (.slice (some ⟨w.heap.size,0,none⟩) n n) (World.push w (.cells cells' el (0,0))):=by
 have c:=Ha (P:=P) (w:=w) hi;have hlim:¬(n*i.size>2 ^ 24):=by omega
 unfold Instr.buildSlice;unfold madeCells at hfill;have j:(zeroValue el).run P w=.ok z w:=by simp[zeroValue,typeInfo,hi,y,go_sem]
 have e:∀f:Nat->Value,Array.map f (Array.range 0)=#[]:=λf=>by simp
 generalize Value.cells=C at hfill ⊢;by_cases h:n*i.size=0
 .rw[h,e]at hfill;simp only[Am,run_underlying q,c,h,Ao,e,hfill,if_true,Ay,newRow];simp[hfill,e,go_sem];rfl
 .simp only[Am,run_underlying q,c,AT hlim,AT h,j,Ao,hfill,Ay,newRow];simp[hfill,go_sem];rfl
theorem ah(h:Inv F S g a w){d n:Nat}{t el:TypeId}{y:List T}{ps:Array (Nat×Operand)}{qs:List (Nat×Opd)}(hd:d<F.N)(e:ev (.CC d n y qs) S=some S')(hu:F.P.underlying t=some (.slice el))(he:F8 F.P t y.length=true)
 (hz:AEc F.P el y=true) (hp:Np ps.toList qs=true) (L:∀p∈Qv ps.toList qs,Mt F.A F.P p.1 p.2) :
 ∃v w' g',(Instr.buildSlice t n (ps.map λ(i,x)=>(i,a.eval x))).run F.P w=.ok v w'/\Inv F S' g' (a.put (some d) v) w'/\∀b,b<w.heap.size->w'.heap[b]?=w.heap[b]?:=by
 simp only[ev]at e;split at e
 .rename_i hlim;split at e
  .rename_i S1 ys O;obtain⟨i,z,hi,Z,G,J,Y⟩:=Yl (w:=w) hz;have hC0:CW w y.length (rowsOf n y) (λi j=>((madeCells z.cells (n*y.length))[i*y.length+j]?).getD undef) (λ_ _ _=>False) (madeCells z.cells (n*y.length)).toList:=by
    refine⟨by simp[madeCells,rowsOf],by intro row hr;simp[rowsOf]at hr;rw[hr.2],?_,by simp⟩;intro i j x q;obtain⟨hi,hj⟩:=ee q;obtain⟨v,X,hs⟩:=Y j x hj;have L:=VL (n:=n) X hi;rw[J]at L;rw[DL,L];exact⟨rfl,hs⟩
   obtain⟨g2,hT,I,c',f',cells',hfill,hC,hl⟩:=AYI ps.toList qs S S1 g _ ys _ _ (madeCells z.cells (n*y.length)) h hp L O (by simp[rowsOf]) hC0 (λ_ _ _ _ _ c=>c.elim);have H:=nZ (P:=F.P) (w:=w) (n:=n) (parts:=ps.map λp=>(p.1,a.eval p.2)) (cells':=cells') hu hi Z (by rw[G];exact hlim) (by rw[G,Array.toList_map];exact hfill);have B:∀i j x b,at2 ys i j=some x->f' i j b->b<w.heap.size:=λi j x b q c=>Own.lt (hC.cell i j x q).2 b c
   have hO:=hC.own (w':=World.push w (.cells cells' el (0,0))) (blk:=w.heap.size) (off:=0) (cap:=n) (arr:=cells') (E:=el) (.of LR) (by omega) (by
    have:=hC.len;rw[I,Bg]at this;omega) (by intro k v hk;rw[Ar];simpa using hk) (λi j x q c=>absurd (B i j x _ q c) (by omega)) (λi j x b q c=>FG (B i j x b q c))
   obtain⟨g',hG⟩:=hT.inv.eK hd e Still.push (λb c _=>FG c) hO (by
    rintro b (rfl|⟨i,j,x,q,c⟩)
    .exact .inl (Ab _)
    .exact .inr (hl i j x b q c))
   rw[I]at hG;exact⟨_,_,g',H,hG,λb c=>FG c⟩
  .cases e
 .cases e
theorem OK{xs:List (List T)}{n i j:Nat}{x:T}(h:at2 (xs.take n) i j=some x):i<n/\at2 xs i j=some x:=by
 have:=PF (lo:=0) (xs:=xs) (n:=n) (i:=i) (j:=j) (by simpa using h);simpa using this
theorem QA{xs:List (List T)}{n i j:Nat}{x:T}(h:at2 (xs.drop n) i j=some x):at2 xs (n+i) j=some x:=by
 grind[at2]
theorem AH7{P:Program}{B:Blk}{e n:Nat}{ys:List (List T)}{v:Value}(hV:View w B (.sl e ys) v)(Z:HF ys=true)(hn:n<=ys.length) :
 ∃c vs,CW w e (ys.take n) c (λ_ _ _=>False) vs/\(∀w',(Bd v).run P w'=.ok ys.length w')/\(BU e n v).run P w=.ok vs.toArray w:=by
 cases hV with
 |sc h=>exact h.elim|nl=>
  refine⟨λ_ _=>undef,[],⟨by simp,by simp,by simp[at2],by simp[at2]⟩,λw'=>by simp[Bd],run_firstCells_none ..⟩
 |@sl _ _ a len cap c L h2 O X h5 Y=>
  subst L;obtain⟨vs,hC⟩:∃vs,CW w e (ys.take n) c (λ_ _ _=>False) vs:=⟨_,CW.read (λrow hr=>O row (List.mem_of_mem_take hr)) (λi j x y=>OF (Y i j x (OK y).2) (RV Z (OK y).2)) (by simp)⟩;refine⟨c,_,hC,λw'=>by simp[Bd],?_⟩;refine run_firstCells_some (P:=P) w e n a _ cap _ (by rw[hC.len,Aj,D9 hn]) ?_;intro k u J;have q:k<(ys.take n).length*e:=by rw[<-hC.len];exact(AP.1 J).1
  have I:0<e:=by
   rcases Jw e with E|E
   .subst E;simp at q
   .exact E
  obtain⟨x,y⟩:=OJ hC.row ((Cz I).2 q) (Em k I);obtain⟨q1,_⟩:=hC.cell _ _ _ y;rw[GV,Gg,J]at q1;cases q1;have H:=(OK y).2;have G:ys≠[]:=by rintro rfl;simp[at2]at H
  obtain⟨hs,_⟩:=X G;obtain⟨blk,off,sp⟩:=a
  grind[Nat.add_assoc,Nat.mul_comm,Nat.div_add_mod,G3]
theorem AHQ(h:Inv F S g a w){d e:Nat}{t u ty:TypeId}{oa ob:Operand}{x y:Opd}(hd:d<F.N)(q:ev (.cpy d e x y) S=some S')(hoa:CH oa x=true)(hob:CH ob y=true)
 (hma:∀p∈CI oa x,Mt F.A F.P p.1 p.2) (hmb:∀p∈CI ob y,Mt F.A F.P p.1 p.2) (he:F8 F.P t e=true) :
 ∃v w' g',(Cp #[t,u] ty #[a.eval oa,a.eval ob]).run F.P w=.ok v w'/\Inv F S' g' (a.put (some d) v) w'/\∀b,b<w.heap.size->(∀l r,S.one x=some l->l.B8=some r->¬g.fp r b)->w'.heap[b]?=w.heap[b]?:=by
 obtain⟨el,ti,hu,hti,hsz,_,Y⟩:=G9 he;simp only[ev]at q;split at q
 .rename_i r ly J hy;split at q
  .rename_i B xs ys Z hys;split at q
   .rename_i hc;obtain⟨rfl,hwide,hfy,hfx,hne0⟩:=hc;obtain⟨hlx,_⟩:=Gm h J hoa hma;obtain⟨hly,_⟩:=Gm h hy hob hmb;obtain⟨x0,u0,q1,q2,q3⟩:=hlx;rw[Z]at q1;cases q1;have hv:a.eval oa=u0:=q3;obtain⟨u',hu',X⟩:=h.C0 r _ Z;rw[q2]at hu';cases hu';have hfp:=X;cases X with
    |sc hh _ _=>exact hh.elim|nl=>simp at hne0|@sl _ _ blk off len cap arr E _ c f k1 k2 k3 k4 k5 k6 k7 k8 k9 k10=>
     subst k1;have hsrc:∃c' vs,CW w B (ys.take (min ys.length xs.length)) c' (λ_ _ _=>False) vs/\(∀w1,(Bd (a.eval ob)).run F.P w1=.ok ys.length w1)/\(BU B (min ys.length xs.length) (a.eval ob)).run F.P w=.ok vs.toArray w:=by
      rcases Vj h hly hys with ⟨rfl,hv⟩|⟨e2,hV,hw2⟩
      .rw[hv];exact⟨λ_ _=>undef,[],by simpa using (CW.nil (w:=w) (e:=B)),λ_=>by simp[Bd],by simp[BU]⟩
      .have:=hw2 _ hwide;subst this;exact AH7 hV hfy (Nat.min_le_left _ _)
     obtain⟨c',vs,hC,hlen,hfirst⟩:=hsrc;generalize hn:min ys.length xs.length=n at *;have hnx:n<=xs.length:=by omega
     have hny:n<=ys.length:=by omega
     have hnl:(ys.take n).length=n:=by simp;omega
     have hvl:vs.length=n*B:=by rw[hC.len,hnl]
     obtain⟨us,hD⟩:∃us,CW w B (xs.drop n) (λi j=>c (n+i) j) (λ_ _ _=>False) us:=⟨_,CW.read (λrow Z=>k3 row (List.mem_of_mem_drop Z)) (λi j x J=>OF (k7 _ _ _ (QA J)).view (RV hfx (QA J))) (by simp)⟩;have hA:=hC.app hD (by simp);have hmul:n*B<=xs.length*B:=An _ hnx;have hmul2:xs.length*B<=cap*B:=An _ k2;have I:off+vs.length<=arr.size:=by omega
     have hst:=Fp (P:=F.P) (o:=off) k4 I hC.one;have hzl:(ys.take n++xs.drop n).length=xs.length:=by simp;omega
     have hO:=hA.own (cap:=cap) (off:=off) (w':=w.setRow blk (arr.toList.take off++vs++arr.toList.drop (off+vs.length)).toArray) (k4.set (by simp;omega)) (by rw[hzl];exact k2) (by simp;omega) (by
      intro k v hk;have O:=GO arr.toList off vs (by simpa using I) (off+k);rw[K1 _ _ _ (by simpa using I)]at O;simp only[BS];rw[O];by_cases hk':k<vs.length
      .rw[BN hk']at hk;rw[AW (by omega),<-hk];congr 1;omega
      .rw[BH (by omega)]at hk;rw[AT (by omega)];have hlt:k-vs.length<(xs.drop n).length*B:=by rw[<-hD.len];exact(AP.1 hk).1
       obtain⟨x,J⟩:=OJ hD.row ((Cz Y).2 hlt) (Em (k-vs.length) Y);obtain⟨p1,_⟩:=hD.cell _ _ _ J;rw[GV,Gg,hk]at p1;cases p1;have:=k6 _ _ _ (QA J);rw[DL,<-this];have e1:=Gg (k-vs.length) B;have e2:(n+(k-vs.length) / B)*B=n*B+B*((k-vs.length) / B):=by rw[Bb,GV ((k-vs.length) / B)]
       congr 1;omega) (λi j x J H=>by simp at H) (λi j x b J H=>by simp at H)
     have hO':=hO.congr (S':=λb=>b=blk) (by intro b;simp);have G:g.fp r blk:=(k10 blk).2 (.inl rfl);rw[hzl]at hO';obtain⟨g1,hg1⟩:=h.AVd (ys:=ys.take n++xs.drop n) (fp':=λb=>b=blk) Z q2 hzl (w':=w.setRow blk (arr.toList.take off++vs++arr.toList.drop (off+vs.length)).toArray)
      Still.setRow (λb _ H=>setRow_other (by rintro rfl;exact H G)) hO'
      (λb H=>by subst H;exact h.HM r ⟨_,Z⟩ _ G) (λr' hr' hne b H=>by subst H;exact h.dis r r' ⟨_,Z⟩ hr' (Ne.symm hne) _ G) (λid hid H=>h.Fh r id ⟨_,Z⟩ hid (by rw[H];exact G))
     have htk:ys.take xs.length++xs.drop ys.length=ys.take n++xs.drop n:=by
      rw[<-hn];rcases Nat.le_total ys.length xs.length with hh|hh
      .rw[D9 hh,BE hh,BE (Ab _)]
      .rw[Nat.min_eq_right hh,As hh,As (Ab _)]
     rw[htk]at q;obtain⟨g2,hg2⟩:=LS (v:=.int .i64 (n:Nat)) hg1 hd q rfl;refine⟨_,_,g2,?_,hg2,λb _ H=>setRow_other (by rintro rfl;exact H _ r J rfl G)⟩;rw[hv];unfold Cp;have hs2:=Ha (P:=F.P) (w:=w) hti;rw[hsz]at hs2;have hmin:Nat.min ys.length xs.length=n:=hn;have hl1:=hlen w;simp only[A1,AI,AM,Ar,Nat.reduceAdd,BS,AN,CJ];generalize a.eval ob=vb at hl1 hfirst ⊢;generalize Bd=L at hl1 ⊢;generalize BU=FC at hfirst ⊢;simp[run_underlying hu,hl1,hmin,hs2,hfirst,hst,goInt,go_sem]
   .cases q
  .cases q
 .cases q
end
section
variable{F:Fix}{S S':St}{g g':Gh}{a a':Act}{w w':World}
variable{ks:List (Int×Int)}{d:Nat}{x:Opd}{ok om:Operand}{t:TypeId}
theorem Inv.Aa2(h:Inv F S g a w){r:CL}{xs ys:List (Int×Int)}{u:Value}{fp':Blk}(hx:S.at r=some (.ow (.mp xs)))(hu:g.rv r=some u)
 (hs:Still w w') (hw:∀b,b<w.heap.size->¬g.fp r b->w'.heap[b]?=w.heap[b]?) (hown:Own w' (.mp ys) u fp') (hK:∀b,fp' b->¬F.K b)
 (hdis:∀r',CP S r'->r'≠r->∀b,fp' b->¬g.fp r' b) (hB:∀id,(get S.bx id).isSome->¬fp' (g.β id)) :
 Inv F ((S.Bi r (.ow (.mp ys))).kill (Fo r)) { g with fp:=λr'=>if r'=r then fp' else g.fp r'} a w':=by
 have hat:∀r',((S.Bi r (.ow (.mp ys))).kill (Fo r)).at r'=(if r'=r then some (.ow (.mp ys)) else S.at r').map λl=>if Fo r l then .t .top else l:=by
  intro r';rw[Hw,E5 hx]
 have O:∀r',CP ((S.Bi r (.ow (.mp ys))).kill (Fo r)) r'->CP S r':=by
  rintro r' ⟨x,hx'⟩;rw[hat,AO]at hx';obtain⟨l,G,H⟩:=hx';split at H
  .cases H
  .subst H;split at G
   .subst_vars;exact⟨_,hx⟩
   .exact⟨x,G⟩
 have hsome:∀id,(get ((S.Bi r (.ow (.mp ys))).kill (Fo r)).bx id).isSome->(get S.bx id).isSome:=by
  intro id Z;simp only[St.kill,DY,Eu]at Z
  rwa[Dv]at Z
 have hKw:∀b,F.K b->w'.heap[b]?=w.heap[b]?:=λb c=>hw b (BY (h.rlt b c) h.size) λhf=>h.HM r ⟨_,hx⟩ b hf c
 have hfw:∀r',CP S r'->r'≠r->∀b,g.fp r' b->w'.heap[b]?=w.heap[b]?:=by
  rintro r' ⟨x,hx'⟩ B b c;obtain⟨v,_,J⟩:=h.C0 r' _ hx';exact hw b (Own.lt J b c) (h.dis r' r ⟨x,hx'⟩ ⟨_,hx⟩ B b c)
 let g':Gh:={ g with fp:=λr'=>if r'=r then fp' else g.fp r'}
 have I:g'.fp r=fp':=by simp[g']
 have y:∀r',r'≠r->g'.fp r'=g.fp r':=λr' B=>by simp[g',B]
 have tr:∀{fp:Blk} {l:AS} {v:Value},Fo r l=false->(∀x,l≠.ow x)->B1 F S g w fp l v->B1 F ((S.Bi r (.ow (.mp ys))).kill (Fo r)) g' w' fp l v:=by
  intro fp l v hin hno J;by_cases hr:l.B8=some r
  .match l,J with
   |.al e sub,⟨x,u1,q,L,h3⟩=>
    cases hr;rw[hx]at q;cases q;refine⟨.mp ys,u1,by rw[hat,AW rfl];rfl,L,?_⟩;cases sub with
    |none=>exact h3|some p=>exact h3
   |.ep e i j,⟨Y,xs1,blk,off,len,cap,q,L,h3,h4⟩=>
    cases hr;rw[hx]at q;cases q
   |.vw (.own e _) Y xs1,_=>cases hr;simp[Fo]at hin
   |.vp (.own e _) cs1,_=>cases hr;simp[Fo]at hin
  .refine B1.any hno ((B1.any (fp':=λ_=>False) hno J).tr ?_ (λ_ _=>rfl) (λ_ h=>h.elim) hKw);intro e hr1;obtain⟨x,hx1⟩:=J.alive hr1;have B:e≠r:=by rintro rfl;exact hr hr1
   refine⟨?_,rfl,λb c=>by rw[y e B];exact c,hfw e ⟨x,hx1⟩ B⟩;rw[hat,AT B,hx1];rfl
 show Inv F _ g' a w';refine { C0:=?_,tms:=?_,bxs:=?_,dis:=?_,Fh:=?_,HM:=?_,Gr:=λid id' q L=>h.Gr id id' (hsome id q) (hsome id' L),bxR:=λid q=>h.bxR id (hsome id q),FD:=λb c=>(hKw b c).trans (h.FD b c),rlt:=h.rlt,still:=h.still.trans hs,defs:=h.defs,tsz:=h.tsz,pin:=?_}
 .intro r' l hl;rw[hat,AO]at hl;obtain⟨l0,G,H⟩:=hl;by_cases hr:r'=r
  .subst hr;rw[AW rfl]at G;cases G;simp only[Fo,if_false,BJ]at H;subst H;exact⟨u,hu,by rw[I];exact hown⟩
  .rw[AT hr]at G;obtain⟨v,hv,J⟩:=h.C0 r' l0 G;refine⟨v,hv,?_⟩;split at H
   .subst H;exact B1.top
   .rename_i hin;subst H;by_cases how:∃x,l0=.ow x
    .obtain⟨x,rfl⟩:=how;rw[y r' hr];exact Own.frame J (hfw r' ⟨x,G⟩ hr)
    .have hno:∀x,l0≠.ow x:=λx hx=>how ⟨x,hx⟩
     exact B1.any hno (tr (by simpa using hin) hno J)
 .intro s e' he;simp only[St.kill,FZ,AO]at he;obtain⟨Y,he1,rfl⟩:=he;obtain⟨e0,q,L,h3⟩:=MX he1;obtain⟨p1,p2,p3⟩:=h.tms s e0 q;exact⟨p1,by rw[p2,L],by rw[p3,Fa,h3]⟩
 .intro id ls' hls;simp only[St.kill,DY,AO]at hls;obtain⟨l1,G,rfl⟩:=hls;obtain⟨l0,q,L⟩:=JV G;obtain⟨⟨E,hE⟩,p2⟩:=h.bxs id l0 q;refine⟨⟨E,(hw _ (BB.1 hE).1 λhf=>h.Fh r id ⟨_,hx⟩ (by simp[q]) hf).trans hE⟩,by rw[p2,Fa,L]⟩
 .intro e r2 q L B b c X;by_cases Y:e=r
  .subst Y;rw[I]at c;rw[y r2 (Ne.symm B)]at X;exact hdis r2 (O r2 L) (Ne.symm B) b c X
  .rw[y e Y]at c;by_cases e2:r2=r
   .subst e2;rw[I]at X;exact hdis e (O e q) Y b X c
   .rw[y r2 e2]at X;exact h.dis e r2 (O e q) (O r2 L) B b c X
 .intro e id q Z c;by_cases Y:e=r
  .subst Y;rw[I]at c;exact hB id (hsome id Z) c
  .rw[y e Y]at c;exact h.Fh e id (O e q) (hsome id Z) c
 .intro e q b c;by_cases Y:e=r
  .subst Y;rw[I]at c;exact hK b c
  .rw[y e Y]at c;exact h.HM e (O e q) b c
 .intro p hp;have hpp:p∈S.pin:=by
   have:((S.Bi r (.ow (.mp ys))).kill (Fo r)).pin=S.pin:=HZ
   rwa[this]at hp
  obtain⟨q,L⟩:=h.pin p hpp;exact⟨q,λhs=>L (hsome p hs)⟩
theorem AMQ{es:Array MapEntry}(h:es.toList.map bn=ks.map cQ):es.size=ks.length:=by
 have:=congrArg List.length h;simpa using this
theorem Zd n m :∀{es:List MapEntry} {ks:List (Int×Int)} (i:Nat),es.map bn=ks.map cQ ->
 (Instr.findNow (.int .i64) (.int .i64 n) es i=some none/\NI ks n=0/\KE ks n m=ks++[(n,m)]) \/
 ∃j e,Instr.findNow (.int .i64) (.int .i64 n) es i=some (some (i+j,e.val))/\es[j]?=some e/\e.key=.int .i64 n/\e.val=.int .i64 (NI ks n) /\
  (es.modify j λe=>{ e with key:=.int .i64 n,val:=.int .i64 m}).map bn=(KE ks n m).map cQ
 | [],[],i,h=>.inl ⟨rfl,rfl,rfl⟩|e::es,(k,v)::ks,i,h=>by
  simp only[AK,CE]at h;obtain⟨q,E⟩:=h;have G:e.key=.int .i64 k:=congrArg Prod.fst q;have J:e.val=.int .i64 v:=congrArg Prod.snd q;by_cases c:n=k
  .subst c;refine .inr ⟨0,e,?_,rfl,G,?_,?_⟩
   .simp[Instr.findNow,Instr.sameNow,G]
   .simp[NI,J]
   .simp[KE,E,bn,cQ]
  .have H:Instr.findNow (.int .i64) (.int .i64 n) (e::es) i=Instr.findNow (.int .i64) (.int .i64 n) es (i+1):=by
    grind[Instr.findNow,Instr.sameNow]
   rcases Zd n m (i+1) E with ⟨q1,y,B⟩|⟨j,I,q1,y,B,L,O⟩
   .exact .inl ⟨by rw[H,q1],by simp[NI,c,y],by simp[KE,c,B]⟩
   .refine .inr ⟨j+1,I,by rw[H,q1,show i+1+j=i+(j+1) by omega],by simpa using y,B,by simp[NI,c,L],?_⟩;simp[KE,c,O,q]
 | [],_::_,_,h=>by simp at h|_::_,[],_,h=>by simp at h
theorem aX{P}(h:Nl P t=true):∃k e i,P.underlying t=some (.map k e)/\P.underlying k=some (.int .i64)/\P.info? e=some i/\i.zero=some (.int .i64 0):=by
 grind[Nl,isInt]
theorem mh(h:Inv F S g a w){o:Operand}{r:CL}(c:S.Qj x=some (r,ks))(I:CH o x=true)(H:∀p∈CI o x,Mt F.A F.P p.1 p.2) :
 ∃blk es clock,a.eval o=.map (some blk)/\S.at r=some (.ow (.mp ks))/\g.rv r=some (.map (some blk))/\w.heap[blk]?=some (.map es clock)/\es.toList.map bn=ks.map cQ/\g.fp r blk/\S.one x=some (.al r none):=by
 unfold St.Qj at c;split at c
 .rename_i Y B;split at c
  .rename_i J q;cases c;obtain⟨G,_⟩:=Gm h B I H;obtain⟨x0,y,q1,L,O⟩:=G;rw[q]at q1;cases q1;have X:a.eval o=y:=O;obtain⟨Z,j,e⟩:=h.C0 r _ q;rw[L]at j;cases j;have hO:Own w (.mp ks) y (g.fp r):=e;cases hO with
   |sc E _ _=>exact E.elim|mp hM hS=>
    obtain⟨es,clock,p1,p2⟩:=hM
    grind
  .cases c
 .cases c
theorem AHV(h:Inv F S g a w){t:TypeId}(j:d<F.N)(c:ev (.mmk d) S=some S') :
 ∃v w' g',(Instr.makeMap t none).run F.P w=.ok v w'/\Inv F S' g' (a.put (some d) v) w'/\∀b,b<w.heap.size->w'.heap[b]?=w.heap[b]?:=by
 simp only[ev]at c;obtain⟨g',q⟩:=h.newRow (w':=World.push w (.map #[] 0)) (v:=.map (some w.heap.size)) (S0:=λb=>b=w.heap.size) j c Still.push (λb e=>FG e)
  (.mp ⟨#[],0,LR,rfl⟩ λb=>Iff.rfl) (λb e=>.inl (by omega))
 exact⟨_,_,g',rfl,q,λb e=>FG e⟩
theorem yS(h:Inv F S g a w){k:Opd}(X:d<F.N)(c:ev (.U1 d x k) S=some S')(ht:Nl F.P t=true)(E:CH om x=true)(B:CH ok k=true)
 (y:∀p∈CI om x,Mt F.A F.P p.1 p.2) (q:∀p∈CI ok k,Mt F.A F.P p.1 p.2) :
 ∃v g',(Instr.lookup t (a.eval om) (a.eval ok) false).run F.P w=.ok v w/\Inv F S' g' (a.put (some d) v) w:=by
 simp only[ev]at c;split at c
 .rename_i r ks n hx Z;obtain⟨blk,es,clock,L,e2,e3,H,O,e6,e7⟩:=mh h hx E y;have ek:a.eval ok=.int .i64 n:=Q1 h Z B q;obtain⟨kt,et,i,J,G,u3,u4⟩:=aX ht;obtain⟨g',Y⟩:=LS (v:=.int .i64 (NI ks n)) h X c rfl;refine⟨_,g',?_,Y⟩;rw[L,ek];have hz:(zeroValue et).run F.P w=.ok (.int .i64 0) w:=by simp[zeroValue,typeInfo,u3,u4,go_sem]
  have e:=λb=>MapKept.run_checkKey (P:=F.P) (w:=w) G (show MapKept.IsKey (.int .i64) (.int .i64 n) from (rfl:IntKind.i64=IntKind.i64)) b 9999
  rcases Zd n 0 0 O with ⟨q1,I,q3⟩|⟨j,e',q1,I,q3,q4,q5⟩
  .simp[Instr.lookup,run_underlying J,MapKept.run_getObj_map H,e,MapKept.run_findKey G q1,hz,I,Ao,go_sem]
  .simp[Instr.lookup,run_underlying J,MapKept.run_getObj_map H,e,MapKept.run_findKey G q1,q4,Ao,go_sem]
 .cases c
theorem yV(h:Inv F S g a w){ty:TypeId}{o:Operand}(y:d<F.N)(c:ev (.U2 d x) S=some S')(H:Nl F.P t=true)(G:CH o x=true)(E:∀p∈CI o x,Mt F.A F.P p.1 p.2) :
 ∃v g',(Builtin.len_ #[t] ty #[a.eval o]).run F.P w=.ok v w/\Inv F S' g' (a.put (some d) v) w:=by
 simp only[ev]at c;split at c
 .rename_i r ks I;obtain⟨blk,es,clock,e,L,O,j,q,X,Y⟩:=mh h I G E;obtain⟨kt,et,i,J,Z,u3,u4⟩:=aX H;obtain⟨g',B⟩:=LS (v:=.int .i64 (ks.length:Nat)) h y c rfl;refine⟨_,g',?_,B⟩;rw[e,run_len_map (w:=w) t ty blk es clock (by simp[Program.mapKeyOf,Program.mapElemOf,J]) j,AMQ q];rfl
 .cases c
theorem Still.AZ1{b:Nat}{es e:Array MapEntry}{c j:Nat}(h:w.heap[b]?=some (.map es c)):Still w { w with heap:=w.heap.setIfInBounds b (.map e j)}:=by
 refine⟨by simp,rfl,rfl,λa _=>?_⟩
 grind[World.frozen?,MapKept.heap_set]
theorem yW(h:Inv F S g a w){ov:Operand}{k v:Opd}(q:ev (.To x k v) S=some S')(ht:Nl F.P t=true)(hom:CH om x=true)(hok:CH ok k=true)(hov:CH ov v=true)
 (Y:∀p∈CI om x,Mt F.A F.P p.1 p.2) (X:∀p∈CI ok k,Mt F.A F.P p.1 p.2) (Z:∀p∈CI ov v,Mt F.A F.P p.1 p.2) :
 ∃w' g',(Instr.mapUpdate t (a.eval om) (a.eval ok) (a.eval ov)).run F.P w=.ok () w'/\Inv F S' g' a w'/\∀b,b<w.heap.size->(∀l r,S.one x=some l->l.B8=some r->¬g.fp r b)->w'.heap[b]?=w.heap[b]?:=by
 simp only[ev]at q;split at q
 .rename_i r ks n m hx hk hv;obtain⟨blk,es,clock,e1,I,e3,y,e5,B,e7⟩:=mh h hx hom Y;have ek:a.eval ok=.int .i64 n:=Q1 h hk hok X;have evv:a.eval ov=.int .i64 m:=Q1 h hv hov Z;obtain⟨kt,et,i,u1,u2,u3,u4⟩:=aX ht;cases q;have E:=λb=>MapKept.run_checkKey (P:=F.P) (w:=w) u2 (show MapKept.IsKey (.int .i64) (.int .i64 n) from (rfl:IntKind.i64=IntKind.i64)) b 9999
  have main:∃c clock',(Instr.mapUpdate t (a.eval om) (a.eval ok) (a.eval ov)).run F.P w=.ok () { w with heap:=w.heap.setIfInBounds blk (.map c clock')}/\c.toList.map bn=(KE ks n m).map cQ:=by
   rw[e1,ek,evv];rcases Zd n m 0 e5 with ⟨q1,q2,q3⟩|⟨j,e',q1,q2,q3,q4,q5⟩
   .refine⟨_,_,by simp[Instr.mapUpdate,run_underlying u1,MapKept.run_getObj_map y,E,MapKept.run_findKey u2 q1,MapKept.run_setObj_map _ y,Ao];rfl,?_⟩;rw[q3];simp[e5,bn,cQ]
   .have hj:es[j]?=some e':=by simpa using q2
    have O:(MapKept.IsKey (.int .i64) (.int .i64 n)):=(rfl:IntKind.i64=IntKind.i64);refine⟨_,_,by simp[Instr.mapUpdate,run_underlying u1,MapKept.run_getObj_map y,E,MapKept.run_findKey u2 q1,hj,q3,MapKept.run_keyThatStays O,MapKept.run_setObj_map _ y,Ao];rfl,?_⟩;simpa using q5
  obtain⟨c,clock',G,J⟩:=main;obtain⟨hs1,H⟩:=MapKept.heap_set (o':=Obj.map c clock') y;refine⟨_,_,G,h.Aa2 I e3 (fp':=λb=>b=blk) (Still.AZ1 y) (λb _ e=>H b (by rintro rfl;exact e B)) (.mp ⟨c,clock',hs1,J⟩ λb=>Iff.rfl)
   (λb e=>by subst e;exact h.HM r ⟨_,I⟩ _ B) (λr' hr' hne b e=>by subst e;exact h.dis r r' ⟨_,I⟩ hr' (Ne.symm hne) _ B) (λid L e=>h.Fh r id ⟨_,I⟩ L (by rw[e];exact B)),λb _ e=>H b (by rintro rfl;exact e _ r e7 rfl B)⟩
 .cases q
end
section
variable{F:Fix}{S S' S1:St}{g g':Gh}{a a':Act}{w w':World}
def AV3:Op->Option Operand|.load _ a=>some a|.convert _ _ a=>some a|_=>none
def Tch(S:St)(g:Gh)(x:XOp)(b:Nat):Prop:=
 match x with
 |.st _ p _=>AaF S g p b|x=>match x.wr with|some y=>∃l r,S.one y=some l/\l.B8=some r/\g.fp r b|none=>False
def Did(F:Fix)(S S':St)(g:Gh)(a:Act)(o:Oper)(w:World)(x:XOp):Prop:=
 match NH x with
 |.pure=>∃v g',(∀w1,(execOp a.eval o).run F.P w1=.ok (.value v) w1)/\Inv F S' g' (a.put o.dst v) w|.ld=>∃v g' y,AV3 o.op=some y/\(∀w1,AOo (a.eval y) w w1->(execOp a.eval o).run F.P w1=.ok (.value v) w1)/\Inv F S' g' (a.put o.dst v) w|.eff=>∃n v w' g',(execOp a.eval o).run F.P w=.ok n w'/\(n=.value v\/(n=.skip/\v=undef))/\Inv F S' g' (a.put o.dst v) w'/\∀b,b<w.heap.size->¬Tch S g x b->w'.heap[b]?=w.heap[b]?
theorem DJ{N}{x:XOp}{dst}{d}(h:(match x.lK,dst with|some d,some c=>d==c&&xh d N|none,none=>true|_,_=>false)=true)(e:x.lK=some d):dst=some d/\d<N:=by
 grind[xh]
theorem AD9(h:Inv F S g a w){o}{x}(j:Oj F.P F.N o.dst o.op x=true)(J:∀p∈EX o.op x,Mt F.A F.P p.1 p.2)(B:ev x S=some S'):Did F S S' g a o w x:=by
 obtain⟨dst,op,ty,pos,after,guard⟩:=o;dsimp only at j J;simp only[Oj,AF]at j;obtain⟨q,j⟩:=j;split at j
 .rename_i y d b;obtain⟨rfl,I⟩:=DJ q rfl;obtain⟨g',G⟩:=ALP h I B j J;exact⟨a.eval y,g',λw1=>by simp[execOp,Ay],G⟩
 .rename_i y d b;obtain⟨rfl,I⟩:=DJ q rfl;obtain⟨g',G⟩:=AT9 h I B j J;exact⟨a.eval y,g',λw1=>by simp[execOp,Ay],G⟩
 .rename_i y d b;obtain⟨rfl,I⟩:=DJ q rfl;obtain⟨g',G⟩:=ALP h I B j J;exact⟨a.eval y,g',λw1=>by simp[execOp,Ay],G⟩
 .rename_i c y z d c' y' z';obtain⟨rfl,I⟩:=DJ q rfl;simp only[AF]at j;simp only[EX,Bs]at J;obtain⟨t,g',ht,G⟩:=yX h I B j.1.1 j.1.2 j.2 (λp E=>J p (by simp[E])) (λp E=>J p (by simp[E])) (λp E=>J p (by simp[E]));exact⟨if t then a.eval y else a.eval z,g',λw1=>by simp only[execOp,Am,ht,asBool,Ay,Ao],G⟩
 .rename_i t d zs;obtain⟨rfl,I⟩:=DJ q rfl;obtain⟨v,w',g',H,G,X⟩:=m9 h I B j;exact⟨.value v,v,w',g',by simp only[execOp,Am,H,Ao,Ay],.inl rfl,G,λb Z _=>X b Z⟩
 .rename_i t y d b;obtain⟨rfl,I⟩:=DJ q rfl;obtain⟨v,w',g',H,G,X⟩:=AHO (t:=t) h I B j J;exact⟨.value v,v,w',g',by simp only[execOp,Am,H,Ao,Ay],.inl rfl,G,λb Z _=>X b Z⟩
 .rename_i t ps d zs qs;obtain⟨rfl,I⟩:=DJ q rfl;simp only[AF]at j;obtain⟨L,O⟩:=j;split at O
  .rename_i fs hu;simp only[AF]at O;obtain⟨v,g',H,G⟩:=nA h I B L hu O.1 O.2 J;exact⟨v,g',λw1=>by simp only[execOp,Am,H,Ao,Ay],G⟩
  .cases O
 .rename_i t n ps d n' zs qs;obtain⟨rfl,I⟩:=DJ q rfl;simp only[AF,beq_iff_eq]at j;obtain⟨⟨⟨rfl,L⟩,O⟩,Y⟩:=j;split at O
  .rename_i el hu;obtain⟨v,w',g',H,G,X⟩:=ah h I B hu L O Y J;exact⟨.value v,v,w',g',by simp only[execOp,Am,H,Ao,Ay],.inl rfl,G,λb Z _=>X b Z⟩
  .cases O
 .rename_i t y d n b;obtain⟨rfl,I⟩:=DJ q rfl;simp only[AF]at j;obtain⟨v,g',H,G⟩:=AUD h I B j.1 j.2 J;exact⟨v,g',y,rfl,λw1 hw1=>by have H:=H w1 hw1;simp only[execOp,Am,H,Ao,Ay],G⟩
 .rename_i t y z n y' z';have hdn:dst=none:=by
   cases dst with
   |none=>rfl|some d=>simp[XOp.lK]at q
  subst hdn;simp only[AF]at j;obtain⟨⟨L,O⟩,Y⟩:=j;split at L
  .rename_i i hi;obtain⟨w',g',H,G,X⟩:=AUE h B hi (by simpa using L) O Y (λp E=>J p (by simp[EX,E])) (λp E=>J p (by simp[EX,E]));exact⟨.skip,undef,w',g',by simp only[execOp,Am,H,Ao,Ay],.inr ⟨rfl,rfl⟩,G,λb _ Z=>X b Z⟩
  .cases L
 .rename_i y d b;obtain⟨rfl,I⟩:=DJ q rfl;obtain⟨ad,g',H,G⟩:=AHP h I B j J;exact⟨a.eval y,g',λw1=>by simp only[execOp,H,Ay],G⟩
 .rename_i op t y z t2 d c op' y' z';obtain⟨rfl,I⟩:=DJ q rfl;simp only[AF,decide_eq_true_eq]at j;obtain⟨⟨⟨rfl,L⟩,O⟩,Y⟩:=j;obtain⟨v,g',H,G⟩:=AHN h I B Y L O (λp E=>J p (by simp[EX,E])) (λp E=>J p (by simp[EX,E]));exact⟨v,g',λw1=>by have H:=H w1;simp only[Am,Ao]at H;simp only[execOp,Am,Ao,H,Ay],G⟩
 .rename_i op t y d op' b;obtain⟨rfl,I⟩:=DJ q rfl;simp only[AF,decide_eq_true_eq]at j;obtain⟨rfl,L⟩:=j;obtain⟨v,g',H,G⟩:=AUF h I B L J;exact⟨v,g',λw1=>by simp only[execOp,Am,H,Ao,Ay],G⟩
 .rename_i s t y d k b;obtain⟨rfl,I⟩:=DJ q rfl;simp only[AF]at j;obtain⟨v,g',H,G⟩:=AHR (s:=s) h I B j.1.1 J j.1.2 j.2;exact⟨v,g',λw1=>by simp only[execOp,Am,H,Ao,Ay],G⟩
 .rename_i s t y d b;obtain⟨rfl,I⟩:=DJ q rfl;simp only[AF]at j;obtain⟨v,w',g',H,G,X⟩:=yQ h I B j.1.1 J j.1.2 j.2;exact⟨.value v,v,w',g',by simp only[execOp,Am,H,Ao,Ay],.inl rfl,G,λb Z _=>X b Z⟩
 .rename_i s t y d b;obtain⟨rfl,I⟩:=DJ q rfl;simp only[AF]at j;obtain⟨v,g',H,G⟩:=yP h I B j.1.1 J j.1.2 j.2;exact⟨v,g',y,rfl,λw1 hw1=>by have H:=H w1 hw1;simp only[execOp,Am,H,Ao,Ay],G⟩
 .rename_i fn first caps d f caps'
  obtain⟨rfl,I⟩:=DJ q rfl;simp only[AF,Array.isEmpty_iff]at j;obtain⟨rfl,L⟩:=j;obtain⟨g',G⟩:=yT h I B L (λp E=>J p (by simp[EX,E])) (J (fn,f) (by simp[EX]));exact⟨.func (.func fn) #[] (caps.map a.eval),g',λw1=>by simp[execOp,Instr.makeFunc,Ay,go_sem],G⟩
 .rename_i t n c d zs n' c';obtain⟨rfl,I⟩:=DJ q rfl;simp only[AF]at j;obtain⟨⟨⟨L,O⟩,Y⟩,h4⟩:=j;split at O
  .rename_i el hu;obtain⟨v,w',g',H,G,X⟩:=yU h I B L hu O Y h4 (λp E=>J p (by simp[EX,E])) (λp E=>J p (by simp[EX,E]));exact⟨.value v,v,w',g',by simp only[execOp,Am,H,Ao,Ay],.inl rfl,G,λb Z _=>X b Z⟩
  .cases O
 .rename_i t y lo hi mx d e b lo' hi';obtain⟨rfl,I⟩:=DJ q rfl;simp only[AF,EV]at j;obtain⟨⟨⟨⟨L,O⟩,Y⟩,rfl⟩,h5⟩:=j;obtain⟨v,g',H,G⟩:=AHW h I B h5 L O Y (λp E=>J p (by simp[EX,E])) (λp E=>J p (by simp[EX,E])) (λp E=>J p (by simp[EX,E]));exact⟨v,g',λw1=>by simp only[execOp,Am,IT,H,Ao,Ay],G⟩
 .rename_i t y lo hi mx d b lo' hi';obtain⟨rfl,I⟩:=DJ q rfl;simp only[AF,EV]at j;obtain⟨⟨⟨⟨L,O⟩,Y⟩,rfl⟩,h5⟩:=j;obtain⟨v,g',H,G⟩:=yY h I B h5 L O Y (λp E=>J p (by simp[EX,E])) (λp E=>J p (by simp[EX,E])) (λp E=>J p (by simp[EX,E]));exact⟨v,g',λw1=>by simp only[execOp,Am,IT,H,Ao,Ay],G⟩
 .rename_i t y f d off b;obtain⟨rfl,I⟩:=DJ q rfl;simp only[AF]at j;obtain⟨v,g',H,G⟩:=AUA h I B j.1 j.2 J;exact⟨v,g',λw1=>by simp only[execOp,Am,H,Ao,Ay],G⟩
 .rename_i t y f d off n b;obtain⟨rfl,I⟩:=DJ q rfl;simp only[AF]at j;obtain⟨⟨L,O⟩,Y⟩:=j;split at Y
  .rename_i fs hu;split at Y
   .rename_i fl hfl;have hoff:fl.offset=off:=by
     unfold Xx at L;rw[hu]at L;simp only[hfl,AF,beq_iff_eq]at L;exact L.1
    obtain⟨v,g',H,G⟩:=AHT h I B hu hfl hoff Y O J;exact⟨v,g',λw1=>by simp only[execOp,Am,H,Ao,Ay],G⟩
   .cases Y
  .cases Y
 .rename_i t y i d e b i';obtain⟨rfl,I⟩:=DJ q rfl;simp only[AF]at j;obtain⟨⟨L,O⟩,Y⟩:=j;obtain⟨v,g',H,G⟩:=AUB h I B L O Y (λp E=>J p (by simp[EX,E])) (λp E=>J p (by simp[EX,E]));exact⟨v,g',λw1=>by simp only[execOp,Am,H,Ao,Ay],G⟩
 .rename_i t y i d b i';obtain⟨rfl,I⟩:=DJ q rfl;simp only[AF]at j;obtain⟨⟨L,O⟩,Y⟩:=j;obtain⟨v,g',H,G⟩:=AUC h I B L O Y (λp E=>J p (by simp[EX,E])) (λp E=>J p (by simp[EX,E]));exact⟨v,g',λw1=>by simp only[execOp,Am,H,Ao,Ay],G⟩
 .rename_i t y i d b i';obtain⟨rfl,I⟩:=DJ q rfl;simp only[AF,beq_iff_eq]at j;obtain⟨L,rfl⟩:=j;obtain⟨v,g',H,G⟩:=AHS h I B L;exact⟨v,g',λw1=>by simp only[execOp,Am,H,Ao,Ay],G⟩
 .simp[ev]at B
 .simp[ev]at B
 .rename_i args ats d b;obtain⟨rfl,I⟩:=DJ q rfl;split at j
  .rename_i y t e1 e2;obtain rfl:args=#[y]:=B3.1 e1;obtain rfl:ats=#[t]:=B3.1 e2;simp only[AF]at j;obtain⟨v,g',H,G⟩:=AHU (ty:=ty) h I B j.2 j.1 (λp E=>J p (by simp[EX,E3,E]));exact⟨v,g',λw1=>by simp only[execOp,resolve,invoke,builtin,Am,Ay,Ao,C1,AK,Ba,H],G⟩
  .cases j
 .rename_i args ats d b;obtain⟨rfl,I⟩:=DJ q rfl;split at j
  .rename_i y t e1 e2;obtain rfl:args=#[y]:=B3.1 e1;obtain rfl:ats=#[t]:=B3.1 e2;simp only[AF]at j;obtain⟨v,g',H,G⟩:=yR (ty:=ty) h I B j.2 j.1 (λp E=>J p (by simp[EX,E3,E]));exact⟨v,g',λw1=>by simp only[execOp,resolve,invoke,builtin,Am,Ay,Ao,C1,AK,Ba,H],G⟩
  .cases j
 .rename_i args ats d e fl x' y';obtain⟨rfl,I⟩:=DJ q rfl;split at j
  .rename_i y z t u e1 e2;obtain rfl:args=#[y,z]:=B3.1 e1;obtain rfl:ats=#[t,u]:=B3.1 e2;simp only[AF]at j;obtain⟨⟨⟨⟨L,O⟩,Y⟩,h4⟩,h5⟩:=j;split at h4
   .rename_i el hu;have h6:∃dd,F.P.underlying u=some dd/\(dd=.string\/∃e',dd=.slice e'):=by
     split at h5
     .rename_i el' hu';exact⟨_,hu',.inr ⟨_,rfl⟩⟩
     .rename_i hu';exact⟨_,hu',.inl rfl⟩
     .cases h5
    obtain⟨dd,hdd1,hdd2⟩:=h6;obtain⟨v,w',g',H,G,X,_⟩:=yN (ty:=ty) h I B L O (λp E=>J p (by simp[EX,E3,E])) (λp E=>J p (by simp[EX,E3,E])) Y hu h4 hdd1 hdd2;exact⟨.value v,v,w',g',by simp only[execOp,resolve,invoke,builtin,Am,Ay,Ao,C1,AK,Ba,H],.inl rfl,G,λb Z hT=>X b Z λl r L O Y=>hT ⟨l,r,L,O,Y⟩⟩
   .cases h4
  .cases j
 .rename_i args ats d zs x' y';obtain⟨rfl,I⟩:=DJ q rfl;split at j
  .rename_i y z t u e1 e2;obtain rfl:args=#[y,z]:=B3.1 e1;obtain rfl:ats=#[t,u]:=B3.1 e2;simp only[AF]at j;obtain⟨⟨⟨⟨L,O⟩,Y⟩,h4⟩,h5⟩:=j;split at h4
   .rename_i el hu;split at h5
    .rename_i k0 hu2;simp only[AF]at h4;obtain⟨v,w',g',H,G,X⟩:=yO (ty:=ty) h I B L O (λp E=>J p (by simp[EX,E3,E])) (λp E=>J p (by simp[EX,E3,E])) Y hu h4.2 h4.1 hu2;exact⟨.value v,v,w',g',by simp only[execOp,resolve,invoke,builtin,Am,Ay,Ao,C1,AK,Ba,H],.inl rfl,G,λb Z hT=>X b Z λl r L O Y=>hT ⟨l,r,L,O,Y⟩⟩
    .cases h5
   .cases h4
  .cases j
 .rename_i args ats d e x' y';obtain⟨rfl,I⟩:=DJ q rfl;split at j
  .rename_i y z t u e1 e2;obtain rfl:args=#[y,z]:=B3.1 e1;obtain rfl:ats=#[t,u]:=B3.1 e2;simp only[AF]at j;obtain⟨⟨⟨L,O⟩,Y⟩,h4⟩:=j;obtain⟨v,w',g',H,G,X⟩:=AHQ (t:=t) (u:=u) (ty:=ty) h I B L O (λp E=>J p (by simp[EX,E3,E])) (λp E=>J p (by simp[EX,E3,E])) Y;exact⟨.value v,v,w',g',by simp only[execOp,resolve,invoke,builtin,Am,Ay,Ao,C1,AK,Ba,H],.inl rfl,G,λb Z hT=>X b Z λl r L O Y=>hT ⟨l,r,L,O,Y⟩⟩
  .cases j
 .rename_i t r d;obtain⟨rfl,I⟩:=DJ q rfl;simp only[AF,EV]at j;obtain⟨rfl,_⟩:=j;obtain⟨v,w',g',H,G,X⟩:=AHV (t:=t) h I B;exact⟨.value v,v,w',g',by simp only[execOp,IT,Am,H,Ao,Ay],.inl rfl,G,λb Z _=>X b Z⟩
 .rename_i t y z okk d m' k';obtain⟨rfl,I⟩:=DJ q rfl;simp only[AF,A8]at j;obtain⟨⟨⟨rfl,L⟩,O⟩,Y⟩:=j;obtain⟨v,g',H,G⟩:=yS (t:=t) h I B L O Y (λp E=>J p (by simp[EX,E])) (λp E=>J p (by simp[EX,E]));exact⟨.value v,v,w,g',by simp only[execOp,Am,H,Ao,Ay],.inl rfl,G,λb Z _=>rfl⟩
 .rename_i t y z u m' k' v';have hdn:dst=none:=by
   cases dst with
   |none=>rfl|some d=>simp[XOp.lK]at q
  subst hdn;simp only[AF]at j;obtain⟨⟨⟨L,O⟩,Y⟩,h4⟩:=j;obtain⟨w',g',H,G,X⟩:=yW (t:=t) h B L O Y h4 (λp E=>J p (by simp[EX,E])) (λp E=>J p (by simp[EX,E])) (λp E=>J p (by simp[EX,E]));exact⟨.skip,undef,w',g',by simp only[execOp,Am,H,Ao,Ay],.inr ⟨rfl,rfl⟩,G,λb Z hT=>X b Z λl r L O Y=>hT ⟨l,r,L,O,Y⟩⟩
 .rename_i args ats d b;obtain⟨rfl,I⟩:=DJ q rfl;split at j
  .rename_i y t e1 e2;obtain rfl:args=#[y]:=B3.1 e1;obtain rfl:ats=#[t]:=B3.1 e2;simp only[AF]at j;obtain⟨v,g',H,G⟩:=yV (ty:=ty) h I B j.2 j.1 (λp E=>J p (by simp[EX,E3,E]));exact⟨.value v,v,w,g',by simp only[execOp,resolve,invoke,builtin,Am,Ay,Ao,C1,AK,Ba,H],.inl rfl,G,λb Z _=>rfl⟩
  .cases j
 .rename_i args ats d x' y';obtain⟨rfl,I⟩:=DJ q rfl;split at j
  .rename_i y z e1;obtain rfl:args=#[y,z]:=B3.1 e1;simp only[AF]at j;obtain⟨v,g',H,G⟩:=ALO (m:=true) (ts:=ats) (t:=ty) h I B j.1 j.2 (λp E=>J p (by simp[EX,E3,E])) (λp E=>J p (by simp[EX,E3,E]));simp only[if_true]at H;exact⟨v,g',λw1=>by simp only[execOp,resolve,invoke,builtin,Am,Ay,Ao,C1,AK,Ba,H],G⟩
  .cases j
 .rename_i args ats d x' y';obtain⟨rfl,I⟩:=DJ q rfl;split at j
  .rename_i y z e1;obtain rfl:args=#[y,z]:=B3.1 e1;simp only[AF]at j;obtain⟨v,g',H,G⟩:=ALO (m:=false) (ts:=ats) (t:=ty) h I B j.1 j.2 (λp E=>J p (by simp[EX,E3,E])) (λp E=>J p (by simp[EX,E3,E]));simp only[BJ,if_false]at H;exact⟨v,g',λw1=>by simp only[execOp,resolve,invoke,builtin,Am,Ay,Ao,C1,AK,Ba,H],G⟩
  .cases j
 .simp[ev]at B
 .cases j
theorem Did.eff{o}{x}(c:Did F S S' g a o w x):∃n v w' g',(execOp a.eval o).run F.P w=.ok n w'/\(n=.value v\/(n=.skip/\v=undef))/\Inv F S' g' (a.put o.dst v) w'/\∀b,b<w.heap.size->¬Tch S g x b->w'.heap[b]?=w.heap[b]?:=by
 unfold Did at c;split at c
 .obtain⟨v,g',e,h⟩:=c;exact⟨_,v,w,g',e w,.inl rfl,h,λ_ _ _=>rfl⟩
 .obtain⟨v,g',y,_,e,h⟩:=c;exact⟨_,v,w,g',e w (λ_ _=>rfl),.inl rfl,h,λ_ _ _=>rfl⟩
 .exact c
theorem Did.wp{o:Oper}{x:XOp}(c:Did F S S' g a o w x){next:Act->World->Prop}{Q:Exit->Act->World->Prop}(q:∀g' v w',Inv F S' g' (a.put o.dst v) w'->next (a.put o.dst v) w'):o.wp F.P a w next Q:=by
 obtain⟨n,v,w',g',e,h,j,_⟩:=c.eff
 grind[Oper.wp,Oper.upon]
theorem yy(h:Inv F S g a w){o:Oper}{x}(e:Oj F.P F.N o.dst o.op x=true)(q:Mz x S=some S'):∃g',Inv F S' g' (a.put o.dst undef) w:=by
 obtain⟨dst,op,ty,pos,after,guard⟩:=o;dsimp only at e ⊢;simp only[Oj,AF]at e;obtain⟨j,_⟩:=e;unfold Mz at q;cases E:x.lK with
 |some d=>
  obtain⟨rfl,G⟩:=DJ j E;simp only[E]at q;refine h.EY (vs:=[undef]) (nf:=λ_ _=>False) q G (Cells.free rfl ?_ (by simp));intro c l B;cases c with
  |zero=>simp only[AN,AD]at B;subst B;exact⟨undef,rfl,rfl⟩|succ c=>simp at B
 |none=>
  simp only[E,AD]at q;subst q;have y:dst=none:=by
   grind
  subst y;exact⟨g,h⟩
theorem Ux(h:Inv F S g a w){ops:Array Oper}{o:Oper}{gd}{b:Bool}(c:Nh ops o.guard gd=true)(B:wanted S gd=some b):Region.wanted o (yielded ops a.tmps)=b:=by
 unfold Region.wanted;unfold Nh at c;split at c
 .rename_i X;simp only[wanted,AD]at B;rw[X];exact B
 .rename_i j want s want' X;rw[X];simp only[AF,beq_iff_eq]at c;obtain⟨rfl,c⟩:=c;split at c
  .rename_i oj L;simp only[decide_eq_true_eq]at c;simp only[wanted]at B;split at B
   .rename_i bb O;simp only[AD]at B;obtain⟨G,hv,Z⟩:=h.tms s _ O;obtain⟨v,q,e⟩:=h.C0 (.tmp s 0) (.t (.bool bb)) (by simp[St.at,O]);have H:v=.bool bb:=e;have Y:g.tv s=[.bool bb]:=by
     match E:g.tv s,Z with
     | [y],_=>simp[Gh.rv,E]at q;rw[q,H]
    have ht:a.tmps[s]?=some (.bool bb):=by
     have I:s<a.tmps.size:=by rw[h.tsz];exact G
     have J:a.tmps.getD s undef=.bool bb:=by rw[hv,Y];rfl
     rw[HS I];simp only[Array.getD,I,dif_pos]at J;exact congrArg some J
    simp only[yielded,L,Kt,c,ht];rw[<-B];cases bb<;>cases want<;>rfl
   .rename_i O;simp only[AD]at B;obtain⟨G,hv,Z⟩:=h.tms s _ O;obtain⟨v,q,e⟩:=h.C0 (.tmp s 0) .und (by simp[St.at,O]);have H:v=undef:=e;have Y:g.tv s=[undef]:=by
     match E:g.tv s,Z with
     | [y],_=>simp[Gh.rv,E]at q;rw[q,H]
    have ht:a.tmps[s]?=some undef:=by
     have I:s<a.tmps.size:=by rw[h.tsz];exact G
     have J:a.tmps.getD s undef=undef:=by rw[hv,Y];rfl
     rw[HS I];simp only[Array.getD,I,dif_pos]at J;exact congrArg some J
    simp only[yielded,L,Kt,c,ht];rw[<-B];rfl
   .cases B
  .cases c
 .cases c
end
def zb(w:World)(R:Blk):V->Value->Prop|.v .one [x],u=>View w R x u|.p cs,u=>Vb w R cs u|_,_=>False
def Kn(w:World)(R:Blk)(cs:List T)(us:List Value):Prop:=us.length=cs.length/\∀(c:Nat) x,cs[c]?=some x->∃z,us[c]?=some z/\View w R x z
def ze(w:World)(D:Nat->Blk)(cs:List T)(us:List Value):Prop:=us.length=cs.length/\∀(c:Nat) x,cs[c]?=some x->∃z,us[c]?=some z/\Own w x z (D c)
def bH(A:Nat->Nat->List Md->Prop)(P:Program)(w:World)(R:Blk)(G:Nat->Blk)(us:List Value)(md:Md)(V:V)(u:Value):Prop:=
 match md,V with
 |.v,.v sh cs=>u=mkV sh us/\Kn w R cs us/\∀c b,¬G c b|.v,.f xf caps=>(∃n cv,u=.func (.func n) #[] cv/\Mt A P n xf/\cv.size=caps.length/\∀(i:Nat) V c,caps[i]?=some V->cv[i]?=some c->zb w R V c)/\∀c b,¬G c b|.p,.p cs=>Vb w R cs u/\∀c b,¬G c b|.b,.b cs=>∃blk E,u=.pointer (some ⟨blk,0,none⟩)/\w.heap[blk]?=some (.cells us.toArray E (0,0))/\Kn w R cs us/\∀c b,G c b↔c=0/\b=blk|.o,.o sh cs=>u=mkV sh us/\ze w G cs us/\∀c b,G c b->c<cs.length|.m,.m sh cs=>u=mkV sh us/\ze w G cs us/\∀c b,G c b->c<cs.length|_,_=>False
structure M6(A:Nat->Nat->List Md->Prop)(P:Program)(w:World)(R:Nat->Blk)(G:Nat->Nat->Blk)(U:Nat->List Value)(ms:List Md)(vs:List V)(us:List Value):Prop where
 Nn:vs.length=ms.length
 mb:us.length=ms.length
 arg:∀(i:Nat) md V u,ms[i]?=some md->vs[i]?=some V->us[i]?=some u->bH A P w (R i) (G i) (U i) md V u
 rlt:∀i b,R i b->b<w.heap.size
 rg:∀i j c b,R i b->¬G j c b
 gg:∀i c j d b,G i c b->(i≠j\/c≠d)->¬G j d b
 out:∀i c b,G i c b->i<ms.length
def Pg(w':World)(R:Nat->Blk)(Z:Blk)(D:Nat->Nat->Blk)(U:Nat->List Value)(us:List Value):Nat->List Md->List (List T)->Prop|_,[],outs=>outs=[]|i,.b::ms,outs=>∃o os,outs=o::os/\(∃blk us' E,us[i]?=some (.pointer (some ⟨blk,0,none⟩))/\w'.heap[blk]?=some (.cells us'.toArray E (0,0))/\us'.length=(U i).length/\Kn w' (λb=>R i b\/Z b) o us')/\Pg w' R Z D U us (i+1) ms os|i,.m::ms,outs=>∃o os,outs=o::os/\ze w' (D (i+1)) o (U i)/\Pg w' R Z D U us (i+1) ms os|i,_::ms,outs=>Pg w' R Z D U us (i+1) ms outs
def pW(w:World)(ms:List Md)(G:Nat->Nat->Blk)(b:Nat):Prop:=w.heap.size<=b\/∃j d md,ms[j]?=some md/\md.FP=true/\G j d b
def AYG(N:Blk)(w':World)(R:Nat->Blk)(Z:Blk)(D:Nat->Nat->Blk)(sh:Sh)(cs:List T)(v:Value):Prop:=
 match sh with
 |.ptr k=>∃blk us E,v=.pointer (some ⟨blk,0,none⟩)/\w'.heap[blk]?=some (.cells us.toArray E (0,0))/\Kn w' (λb=>R k b\/Z b) cs us/\N blk/\¬Z blk/\∀p c,¬D p c blk|.vw k=>∃x,cs=[x]/\View w' (λb=>R k b\/Z b) x v|sh=>∃us,v=mkV sh us/\ze w' (D 0) cs us
structure ot(w w':World)(R:Nat->Blk)(G:Nat->Nat->Blk)(U:Nat->List Value)(ms:List Md)(us:List Value)(sh:Sh)(cs:List T)(outs:List (List T))(v:Value)(Z:Blk)(D:Nat->Nat->Blk):Prop where
 still:Still w w'
 frame:∀b,b<w.heap.size->(∀i c,¬G i c b)->w'.heap[b]?=w.heap[b]?
 z:∀b,Z b->pW w ms G b/\b<w'.heap.size
 res:AYG (pW w ms G) w' R Z D sh cs v
 outs:Pg w' R Z D U us 0 ms outs
 dd:∀p c q d b,D p c b->(p≠q\/c≠d)->¬D q d b
 dz:∀p c b,D p c b->¬Z b
 df:∀p c b,D p c b->pW w ms G b
def Ct(A:Nat->Nat->List Md->Prop)(P:Program):Rel:=λf vs sh cs outs=>
 ∀n,Mt A P n f->∀w R G U us,M6 A P w R G U (E4 f) vs us ->
  Calls P n us.toArray w λe w'=>∃v Z D,e=.returned v/\ot w w' R G U (E4 f) us sh cs outs v Z D
def Si(ms:List Md)(es:List Ent)(i:Nat):Nat:=(Hp (ms.take i) (es.take i)).length
theorem Uk:Si ms es 0=0:=by simp[Si,Hp]
theorem Qq{md}{e}:Si (md::ms) (e::es) (i+1)=(if md.FP=true then e.cs.length else 0)+Si ms es i:=by
 simp only[Si,List.take_succ_cons,Hp,AH];split<;>simp
theorem Uu:∀{ms:List Md} {es:List Ent} {i:Nat} {md:Md} {e:Ent} {c:Nat},ms[i]?=some md->es[i]?=some e->md.FP=true->c<e.cs.length->(Hp ms es)[Si ms es i+c]?=e.cs[c]?
 | [],_,_,_,_,_,h,_,_,_=>by simp at h|_::_,[],_,_,_,_,_,h,_,_=>by simp at h|j::ms,G::es,0,md,e,c,q,y,B,E=>by
  grind[List.getElem?_cons_zero,Option.some.injEq,Uk,Hp,List.getElem?_append_left]
 |j::ms,G::es,i+1,md,e,c,q,y,B,E=>by
  have H:=Uu (ms:=ms) (es:=es) (i:=i) (c:=c) (by simpa using q) (by simpa using y) B E
  grind[Qq,Hp,List.getElem?_append_right]
theorem Uv:∀{ms:List Md} {es:List Ent} {k:Nat} {l:AS},(Hp ms es)[k]?=some l->∃i md e c,ms[i]?=some md/\es[i]?=some e/\md.FP=true/\c<e.cs.length/\k=Si ms es i+c/\e.cs[c]?=some l
 | [],_,_,_,h=>by simp[Hp]at h|_::_,[],_,_,h=>by simp[Hp]at h|H::ms,I::es,k,l,h=>by
  simp only[Hp]at h;split at h
  .rename_i j;by_cases J:k<I.cs.length
   .rw[BN J]at h;exact⟨0,H,I,k,rfl,rfl,j,J,by simp[Uk],h⟩
   .rw[BH (by omega)]at h;obtain⟨i,md,e,c,q,y,B,E,L,G⟩:=Uv h;exact⟨i+1,md,e,c,by simpa using q,by simpa using y,B,E,by rw[Qq,AW j];omega,G⟩
  .rename_i j;simp only[Be]at h;obtain⟨i,md,e,c,q,y,B,E,L,G⟩:=Uv h;exact⟨i+1,md,e,c,by simpa using q,by simpa using y,B,E,by rw[Qq,AT j];omega,G⟩
def pV(S:St)(md:Md)(e:Ent)(cs:List T)(V:V):Prop:=
 match md with
 |.o=>V=.o e.sh (cs.take e.cs.length)|.m=>V=.m e.sh (cs.take e.cs.length)/\e.cs.all R5=true/\Gn e.sh e.cs.length=true|md=>Sn S md e=some V
theorem ADw{S}:∀{ms:List Md} {es:List Ent} {cs:List T} {vs:List V},Jd S ms es cs=some vs->vs.length=ms.length/\es.length=ms.length/\∀(i:Nat) md e,ms[i]?=some md->es[i]?=some e->∃V,vs[i]?=some V /\
 pV S md e (cs.drop (Si ms es i)) V
 | [],[],_,vs,h=>by simp only[Jd,AD]at h;subst h;simp| [],_::_,_,_,h=>by simp[Jd]at h|_::_,[],_,_,h=>by simp[Jd]at h|j::ms,B::es,cs,vs,h=>by
  have fin:∀(V0:V) (c:List V) (q:List T),vs=V0::c->Jd S ms es q=some c->(∀k,(q.drop k)=cs.drop ((if j.FP=true then B.cs.length else 0)+k)) ->
   pV S j B cs V0 ->
   vs.length=(j::ms).length/\(B::es).length=(j::ms).length/\∀(i:Nat) md e,(j::ms)[i]?=some md->(B::es)[i]?=some e->∃V,vs[i]?=some V /\
    pV S md e (cs.drop (Si (j::ms) (B::es) i)) V:=by
   intro V0 c q J I hdrop Y;subst J;obtain⟨G,L,O⟩:=ADw I;refine⟨by simp[G],by simp[L],?_⟩;intro i md e y H;cases i with
   |zero=>
    simp only[AN,AD]at y H;subst y H;refine⟨V0,rfl,?_⟩;rw[Uk,List.drop_zero];exact Y
   |succ i=>
    obtain⟨V,hV,hV2⟩:=O i md e (by simpa using y) (by simpa using H);refine⟨V,by simpa using hV,?_⟩;rw[Qq,<-hdrop];exact hV2
  simp only[Jd]at h;cases j with
  |o=>
   simp only at h;split at h
   .rename_i c E;exact fin _ c _ (Option.some.inj h).symm E (λk=>by simp[Md.FP,C3,NQ]) rfl
   .cases h
  |m=>
   simp only at h;split at h
   .rename_i X;split at h
    .rename_i c E;exact fin _ c _ (Option.some.inj h).symm E (λk=>by simp[Md.FP,C3,NQ]) ⟨rfl,X⟩
    .cases h
   .cases h
  |_=>
   simp only at h;split at h
   .rename_i v c G E;exact fin _ c _ (Option.some.inj h).symm E (λk=>by simp[Md.FP]) G
   .cases h
theorem ZK:∀{ms:List Md} {es prev:List Ent},QG prev ms es=false->es.length=ms.length->(∀(i:Nat) md e,ms[i]?=some md->es[i]?=some e->md.writes=true->(∀p∈prev,shares e p=false)/\∀(j:Nat) y,es[j]?=some y->i≠j->shares e y=false)
 | [],_,_,_,_,i,md,e,h,_,_=>by simp at h|_::_,[],_,_,h,_,_,_,_,_,_=>by simp at h|Z::ms,e0::es,prev,E,q,i,md,e,B,I,O=>by
  simp only[QG,FJ,Bool.and_eq_false_iff]at E;obtain⟨h1,H⟩:=E;have X:=ZK H (by simpa using q);cases i with
  |zero=>
   grind[List.getElem?_cons_zero,Option.some.injEq,List.any_eq_false,List.mem_of_getElem?]
  |succ i=>
   obtain⟨G,Y⟩:=X i md e (by simpa using B) (by simpa using I) O;refine⟨λp L=>G p (by simp[L]),?_⟩;intro j y c J;cases j with
   |zero=>
    simp only[AN,AD]at c;subst c;exact G _ (by simp)
   |succ j=>exact Y j y (by simpa using c) (by omega)
theorem Hj{e c}(h:shares e c=false){l l'}(q:l∈e.cs)(j:l'∈c.cs):(∀r,l.B8=some r->l'.B8≠some r)/\(∀id∈names l,GA id l'=false)/\∀id∈names l',GA id l=false:=by
 grind[shares,List.any_eq_false,T3,Bool.or_eq_false_iff]
section
variable{F:Fix}{S S' S1 S2:St}{g g' g1:Gh}{a a':Act}{w w':World}
variable{l:AS}{B:Blk}{cs:List T}{b:Nat}{x:T}{v:Value}
def bxL(F:Fix)(S:St)(g:Gh)(id b:Nat):Prop:=(get S.bx id).isSome/\(b=g.β id\/(∃c,CP S (.cell id c)/\g.fp (.cell id c) b)\/F.K b)
def rdL(F:Fix)(S:St)(g:Gh):AS->Blk|.vw (.old k) _ _|.vp (.old k) _=>F.R k|.al r _|.ep r _ _|.vw (.own r _) _ _|.vp (.own r _) _=>λb=>CP S r/\g.fp r b|.bp id _=>bxL F S g id|.fn f caps=>λb=>F.K b\/∃id∈names (.fn f caps),bxL F S g id b|_=>λ_=>False
theorem s6{l}{b}(h:rdL F S g l b):F.K b\/(∃r,l.B8=some r/\CP S r/\g.fp r b)\/∃id∈names l,(get S.bx id).isSome/\(b=g.β id\/∃c,CP S (.cell id c)/\g.fp (.cell id c) b):=by
 have bx:∀id,id∈names l->bxL F S g id b->F.K b\/(∃r,l.B8=some r/\CP S r/\g.fp r b)\/∃id∈names l,(get S.bx id).isSome/\(b=g.β id\/∃c,CP S (.cell id c)/\g.fp (.cell id c) b):=by
  rintro id e ⟨q,j|j|j⟩
  .grind
  .grind
  .exact .inl j
 match l,h with
 |.vw (.old k) _ _,h=>exact .inl (F.RK k b h)|.vp (.old k) _,h=>exact .inl (F.RK k b h)|.al r _,h=>exact .inr (.inl ⟨r,rfl,h⟩)|.ep r _ _,h=>exact .inr (.inl ⟨r,rfl,h⟩)|.vw (.own r _) _ _,h=>exact .inr (.inl ⟨r,rfl,h⟩)|.vp (.own r _) _,h=>exact .inr (.inl ⟨r,rfl,h⟩)|.bp id _,h=>exact bx id (by simp[names]) h|.fn f caps,h=>
  rcases h with h|⟨id,e,h⟩
  .exact .inl h
  .exact bx id e h
theorem AZy(h:Inv F S g a w)(B:rdL F S g l b):b<w.heap.size:=by
 have fl:∀r,CP S r->g.fp r b->b<w.heap.size:=by
  rintro r ⟨x,I⟩ j;obtain⟨v,_,y⟩:=h.C0 r _ I;exact Own.lt y b j
 rcases s6 B with G|⟨r,_,e,j⟩|⟨id,_,H,rfl|⟨c,e,j⟩⟩
 .exact BY (h.rlt b G) h.size
 .exact fl r e j
 .obtain⟨ls,q⟩:=Br.1 H;obtain⟨⟨E,hE⟩,_⟩:=h.bxs id ls q;exact(BB.1 hE).1
 .exact fl _ e j
theorem View.up{B'}(h:View w B x v)(c:∀b,B b->B' b):View w B' x v:=h.mono c λ_ _=>rfl
theorem ta(h:Inv F S g a w){fp}{l}{v}{x}(j:B1 F S g w fp l v)(c:S.Hr l=some x)(L:∀y,l≠.ow y):View w (rdL F S g l) x v:=by
 match l,j with
 |.t y,j=>simp only[St.Hr,AD]at c;subst c;exact .sc j|.al r sub,⟨y,u,E,I,J⟩=>
  simp only[St.Hr,E,AD]at c;subst c;obtain⟨O,B,q⟩:=h.C0 r _ E;rw[I]at B;cases B;obtain⟨S0,hS0,hO⟩:=R3 q J;exact hO.view.up λb H=>⟨⟨_,E⟩,hS0 b H⟩
 |.vw (.own r p) e xs,⟨G,⟨S0,hS0,hO⟩,_⟩=>
  simp only[St.Hr,AD]at c;subst c;exact hO.view.up λb H=>⟨G,hS0 b H⟩
 |.vw (.old k) e xs,j=>
  simp only[St.Hr,AD]at c;subst c;exact j
 |.ow y,_=>exact(L y rfl).elim|.und,_=>simp[St.Hr]at c|.ep _ _ _,_=>simp[St.Hr]at c|.vp _ _,_=>simp[St.Hr]at c|.bp _ _,_=>simp[St.Hr]at c|.fn _ _,_=>simp[St.Hr]at c
theorem oV{ls}{cs}(h:S.Hk ls=some cs):cs.length=ls.length/\∀(c:Nat) x,cs[c]?=some x->∃l,ls[c]?=some l/\S.Hr l=some x:=by
 induction ls generalizing cs with
 |nil=>simp only[St.Hk,AD]at h;subst h;simp|cons l ls e=>
  grind[St.Hk,List.getElem?_cons_zero,Option.some.injEq]
theorem OM{k}{ls}{cs}(h:F6 k ls=some cs):cs.length=ls.length/\(∀(c:Nat) x,cs[c]?=some x->∃l,ls[c]?=some l/\QC k l=some x)/\∀l∈ls,∃x,QC k l=some x:=by
 induction ls generalizing cs with
 |nil=>simp only[F6,AD]at h;subst h;simp|cons l ls e=>
  grind[F6,List.getElem?_cons_zero,Option.some.injEq]
theorem pb{k}(h:QC k l=some x):l=.t x\/∃e xs,l=.vw (.old k) e xs/\x=.sl e xs:=by
 unfold QC at h
 grind
theorem ZH{k}{fp}(h:QC k l=some x)(c:B1 F S g w fp l v):View w (F.R k) x v:=by
 rcases pb h with rfl|⟨e,xs,rfl,rfl⟩
 .exact .sc c
 .exact c
theorem AON{ls}(h:Pc ls=true):∀l∈ls,l.B8=none:=by
 induction ls with
 |nil=>simp|cons l ls c=>
  grind[Pc,Option.isNone_iff_eq_none]
theorem pc(h:Inv F S g a w){id off:Nat}{ls:List AS}(B:get S.bx id=some ls)(Y:Pc ls=true)(L:S.Hk (ls.drop off)=some cs) :
 Vb w (bxL F S g id) cs (.pointer (some ⟨g.β id,off,none⟩)):=by
 obtain⟨h1,X⟩:=oV L;obtain⟨⟨E,hE⟩,O⟩:=h.bxs id ls B;refine⟨⟨g.β id,off,none⟩,λj=>(g.bv id).getD (off+j) undef,rfl,rfl,?_⟩;intro j x Z;obtain⟨l,G,c⟩:=X j x Z;rw[Bz]at G;obtain⟨v,L,q⟩:=h.C0 (.cell id (off+j)) l (by simp[St.at,B,G]);have J:(g.bv id)[off+j]?=some v:=L;have I:(g.bv id).getD (off+j) undef=v:=by simp[List.getD,J]
 have hsome:(get S.bx id).isSome:=by simp[B]
 refine⟨⟨hsome,.inl rfl⟩,?_,?_⟩
 .grind[World.cell?]
 .show View w (bxL F S g id) x ((g.bv id).getD (off+j) undef);rw[I];have hroot:=AON Y l (Au G)
  match l,q,c with
  |.t y,q,c=>simp only[St.Hr,AD]at c;subst c;exact .sc q|.ow y,q,c=>
   simp only[St.Hr,AD]at c;subst c;have hO:Own w y v (g.fp (.cell id (off+j))):=q;exact hO.view.up λb H=>⟨hsome,.inr (.inl ⟨off+j,⟨y,by simp[St.at,B,G]⟩,H⟩)⟩
  |.vw (.old k) e xs,q,c=>
   simp only[St.Hr,AD]at c;subst c;have hV:View w (F.R k) (.sl e xs) v:=q;exact hV.up λb H=>⟨hsome,.inr (.inr (F.RK k b H))⟩
  |.vw (.own r _) _ _,_,_=>cases hroot
  |.al r _,_,_=>cases hroot
  |.und,_,c=>simp[St.Hr]at c|.ep _ _ _,_,_=>cases hroot
  |.vp _ _,_,c=>simp[St.Hr]at c|.bp _ _,_,c=>simp[St.Hr]at c|.fn _ _,_,c=>simp[St.Hr]at c
theorem Vb.up{B'}(h:Vb w B cs v)(e:∀b,B b->B' b):Vb w B' cs v:=by
 obtain⟨ad,c,q,y,E⟩:=h;exact⟨ad,c,q,y,λj x G=>let ⟨H,I,J⟩:=E j x G;⟨e _ H,I,J.up e⟩⟩
theorem AL0.Acs(h:AL0 w B cs v):Vb w B cs v:=by
 obtain⟨ad,c,f,e,q,y⟩:=h;exact⟨ad,c,e,q,λj x E=>let ⟨G,H,I,J⟩:=y j x E;⟨G,H,J.view.up I⟩⟩
theorem AL9{ls}{cs}(h:fE S ls=some cs):cs.length=ls.length/\∀(c:Nat) x,cs[c]?=some x->∃l,ls[c]?=some l/\AL8 S l=some x:=by
 induction ls generalizing cs with
 |nil=>simp only[fE,AD]at h;subst h;simp|cons l ls e=>
  grind[fE,List.getElem?_cons_zero,Option.some.injEq]
theorem AZB(h:Inv F S g a w){f}{caps}{V}{c}(G:l∈caps)(j:AL8 S l=some V)(q:Fe F g w l c):zb w (rdL F S g (.fn f caps)) V c:=by
 unfold AL8 at j;split at j
 .cases j;exact .sc q
 .rename_i k e xs;cases j;have hV:View w (F.R k) (.sl e xs) c:=q;exact hV.up λb y=>.inl (F.RK k b y)
 .rename_i id off;split at j
  .rename_i ls E;split at j
   .rename_i H;rw[AO]at j;obtain⟨cs,B,rfl⟩:=j;have I:c=_:=q;subst I;refine(pc h E H B).up λb y=>.inr ⟨id,?_,y⟩
    simp only[names,List.mem_filterMap];exact⟨_,G,rfl⟩
   .cases j
  .cases j
 .rename_i k cs;cases j;have hV:Vb w (F.R k) cs c:=q;exact hV.up λb y=>.inl (F.RK k b y)
 .cases j
def uA(F:Fix)(S:St)(g:Gh)(md:Md)(e:Ent)(b:Nat):Prop:=
 match md with
 |.v|.p=>∃l∈e.cs,rdL F S g l b|.b=>match e with
  |⟨.one,[.bp id 0]⟩=>match get S.bx id with|some ls=>F.R (Dh ls) b|none=>False
  |_=>False
 |_=>False
theorem YV{e}{l}{v}(h:Rd F S g w e v)(E:e=⟨.one,[l]⟩):B1 F S g w (λ_=>False) l v:=by
 subst E;obtain⟨vs,y,G,H,B⟩:=h;obtain⟨u,q,j⟩:=B 0 l rfl;cases vs with
 |nil=>simp at q|cons z I=>
  simp only[AN,AD]at q;subst q;have c:v=z:=y;rw[c];exact j
theorem AWh(h:Inv F S g a w){md:Md}{e:Ent}{V:V}{u:Value}{us:List Value}{G:Nat->Blk}(j:Sn S md e=some V)(hr:Rd F S g w e u)
 (hus:md≠.b->u=mkV e.sh us/\us.length=e.cs.length/\(∀x,AS.ow x∉e.cs)/\∀(c:Nat) (l:AS),e.cs[c]?=some l->∃u,us[c]?=some u/\B1 F S g w (λ_=>False) l u)
 (hub:∀id,md=.b->e=⟨.one,[.bp id 0]⟩->us=g.bv id) (hG:md≠.b->∀c b,¬G c b) (hGb:∀id,md=.b->e=⟨.one,[.bp id 0]⟩->∀c b,G c b↔c=0/\b=g.β id) :
 bH F.A F.P w (uA F S g md e) G us md V u:=by
 unfold Sn at j;split at j
 .split at j
  .rename_i f caps;split at j
   .rename_i cs H;cases j;obtain⟨n,cv,k1,k2,k3,k4⟩:=YV hr rfl;obtain⟨q1,q2⟩:=AL9 H;refine⟨⟨n,cv,k1,k2,by rw[k3,q1],?_⟩,hG (by simp)⟩;intro i V c hV O;obtain⟨l,L,X⟩:=q2 i V hV;have:=AZB h (f:=f) (Au L) X (k4 i l c L O);have up:∀{B B':Blk},zb w B V c->(∀b,B b->B' b)->zb w B' V c:=by
     intro B B' O q;unfold zb at O ⊢;split at O
     .exact O.up q
     .exact O.up q
     .exact O.elim
    exact up this λb q=>⟨.fn f caps,by simp,q⟩
   .cases j
  .split at j
   .rename_i cs H;cases j;obtain⟨k1,k2,k3,k4⟩:=hus (by simp);obtain⟨q1,q2⟩:=oV H;refine⟨k1,⟨by rw[k2,q1],?_⟩,hG (by simp)⟩;intro c x hx;obtain⟨l,L,hvt⟩:=q2 c x hx;obtain⟨z,hz,I⟩:=k4 c l L;exact⟨z,hz,(ta h I hvt (by rintro y rfl;exact k3 y (Au L))).up λb q=>⟨l,Au L,q⟩⟩
   .cases j
 .split at j
  .rename_i id off;split at j
   .rename_i ls J;split at j
    .rename_i hs;split at j
     .rename_i cs H;cases j;have hu:u=_:=YV hr rfl;subst hu;exact⟨(pc h J hs H).up λb q=>⟨.bp id off,by simp,q⟩,hG (by simp)⟩
     .cases j
    .cases j
   .cases j
  .rename_i s cs;cases j;have I:=YV hr rfl;refine⟨?_,hG (by simp)⟩;cases s with
   |own r p=>
    obtain⟨hal,hO⟩:=I;exact hO.Acs.up λb q=>⟨.vp (.own r p) cs,by simp,hal,q⟩
   |old k=>
    have hV:Vb w (F.R k) cs u:=I;exact hV.up λb q=>⟨.vp (.old k) cs,by simp,q⟩
  .cases j
 .split at j
  .rename_i id;split at j
   .rename_i ls J;split at j
    .rename_i cs H;cases j;have hu:u=_:=YV hr rfl;subst hu;obtain⟨⟨E,hE⟩,Y⟩:=h.bxs id ls J;have Z:=hub id rfl rfl;subst Z;obtain⟨q1,q2,_⟩:=OM H;refine⟨g.β id,E,rfl,hE,⟨by rw[Y,q1],?_⟩,hGb id rfl rfl⟩;intro c x hx;obtain⟨l,L,q⟩:=q2 c x hx;obtain⟨v,j,I⟩:=h.C0 (.cell id c) l (by simp[St.at,J,L]);refine⟨v,j,?_⟩;exact(ZH q I).up λb q=>by simp only[uA,J];exact q
    .cases j
   .cases j
  .cases j
 .cases j
theorem eM{r r':CL}(c:S.at r=some (.ow x))(h:S.at r'=some (.t .top)):(S.out r).at r'=some (.t .top):=by
 rw[St.out,Hw,E5 c];split<;>simp[h,MK,AS.B8]
theorem YX{r:CL}(c:S.at r=some (.ow x)):(S.out r).at r=some (.t .top):=by
 rw[St.out,Hw,E5 c];simp[MK,AS.B8]
theorem Tw:∀{ls:List AS} {S S':St} {cs:List T},D1 S ls=some (S',cs)->(∀r,S.at r=some (.t .top)->S'.at r=some (.t .top))/\∀r sub,AS.al r sub∈ls->S'.at r=some (.t .top)
 | [],S,S',cs,h=>by simp only[D1,AD,A6]at h;obtain⟨rfl,rfl⟩:=h;exact⟨λ_ h=>h,by simp⟩
 |l::ls,S,S',cs,h=>by
  cases l with
  |t x=>
   simp only[D1]at h;split at h
   .cases h
   .split at h
    .rename_i S1 G c;simp only[AD,A6]at h;obtain⟨rfl,rfl⟩:=h;obtain⟨E,H⟩:=Tw c;exact⟨E,λr sub B=>H r sub (by simpa using B)⟩
    .cases h
  |al r sub=>
   simp only[D1]at h;split at h
   .rename_i x I;split at h
    .rename_i S1 G c;simp only[AD,A6]at h;obtain⟨rfl,rfl⟩:=h;obtain⟨E,H⟩:=Tw c;refine⟨λr' y=>E r' (eM I y),λr' sub' B=>?_⟩;rcases Ae.1 B with B|B
     .cases B;exact E r (YX I)
     .exact H r' sub' B
    .cases h
   .cases h
  |vw s e xs=>
   cases s with
   |old k=>simp[D1]at h|own r p=>
    cases p with
    |none=>
     simp only[D1]at h;split at h
     .rename_i x I;split at h
      .rename_i S1 G c;simp only[AD,A6]at h;obtain⟨rfl,rfl⟩:=h;obtain⟨E,H⟩:=Tw c;exact⟨λr' y=>E r' (eM I y),λr' sub' B=>H r' sub' (by simpa using B)⟩
      .cases h
     .cases h
    |some q=>
     obtain⟨i,j⟩:=q;simp only[D1]at h;split at h
     .cases h
     .split at h
      .rename_i S1 L;split at h
       .rename_i S2 G c;simp only[AD,A6]at h;obtain⟨rfl,rfl⟩:=h;obtain⟨E,H⟩:=Tw c;obtain⟨O,rows,I,rfl⟩:=Ol L;refine⟨λr' y=>E r' ?_,λr' sub' B=>H r' sub' (by simpa using B)⟩;rw[PY I];have J:r'≠r:=by rintro rfl;rw[I]at y;cases y
        simp[J,y,Fo]
       .cases h
      .cases h
  |_=>simp[D1]at h
theorem Ky:∀{ls:List AS} {S S':St} {cs:List T},D1 S ls=some (S',cs)->∀r,S.at r=some (.t .top)->∀l∈ls,l.B8≠some r
 | [],_,_,_,_=>by simp|l::ls,S,S',cs,h=>by
  intro r E l' c;cases l with
  |t x=>
   simp only[D1]at h;split at h
   .cases h
   .split at h
    .rename_i S1 G y;rcases Ae.1 c with rfl|c
     .simp[AS.B8]
     .exact Ky y r E l' c
    .cases h
  |al r' sub=>
   simp only[D1]at h;split at h
   .rename_i x B;split at h
    .rename_i S1 G y;rcases Ae.1 c with rfl|c
     .intro H;cases H;rw[E]at B;cases B
     .exact Ky y r (eM B E) l' c
    .cases h
   .cases h
  |vw s e xs=>
   cases s with
   |old k=>simp[D1]at h|own r' p=>
    cases p with
    |none=>
     simp only[D1]at h;split at h
     .rename_i x B;split at h
      .rename_i S1 G y;rcases Ae.1 c with rfl|c
       .intro H;cases H;rw[E]at B;cases B
       .exact Ky y r (eM B E) l' c
      .cases h
     .cases h
    |some q=>
     obtain⟨i,j⟩:=q;simp only[D1]at h;split at h
     .cases h
     .split at h
      .rename_i S1 J;split at h
       .rename_i S2 G y;obtain⟨L,rows,B,rfl⟩:=Ol J;rcases Ae.1 c with rfl|c
        .intro H;cases H;rw[E]at B;cases B
        .refine Ky y r ?_ l' c;rw[PY B];have I:r≠r':=by rintro rfl;rw[B]at E;cases E
         simp[I,E,Fo]
       .cases h
      .cases h
  |_=>simp[D1]at h
def AWT(l l':AS):Prop:=∀r,l.B8=some r->l'.B8≠some r
theorem Qs:∀{ls:List AS} {S S':St} {cs:List T},D1 S ls=some (S',cs)->ls.Pairwise AWT
 | [],_,_,_,_=>.nil|l::ls,S,S',cs,h=>by
  cases l with
  |t x=>
   simp only[D1]at h;split at h
   .cases h
   .split at h
    .rename_i S1 B c;exact .cons (λl' _ r E=>by cases E) (Qs c)
    .cases h
  |al r' sub=>
   simp only[D1]at h;split at h
   .rename_i x H;split at h
    .rename_i S1 B c;refine .cons (λl' y r E=>?_) (Qs c);cases E;exact Ky c _ (YX H) l' y
    .cases h
   .cases h
  |vw s e xs=>
   cases s with
   |old k=>simp[D1]at h|own r' p=>
    cases p with
    |none=>
     simp only[D1]at h;split at h
     .rename_i x H;split at h
      .rename_i S1 B c;refine .cons (λl' y r E=>?_) (Qs c);cases E;exact Ky c _ (YX H) l' y
      .cases h
     .cases h
    |some q=>
     obtain⟨i,j⟩:=q;simp only[D1]at h;split at h
     .cases h
     .rename_i G;split at h
      .split at h
       .rename_i S2 B c;refine .cons (λl' y r E=>?_) (Qs c);cases E;exact yZ (by simpa using G) l' y
       .cases h
      .cases h
  |_=>simp[D1]at h
theorem Qu:∀{ls:List AS} {S S':St} {cs:List T},D1 S ls=some (S',cs)->∀{r:CL} {x:T},(∀l∈ls,l.B8≠some r)->S.at r=some (.ow x)->S'.at r=some (.ow x)
 | [],S,S',cs,h,r,x,_,H=>by simp only[D1,AD,A6]at h;obtain⟨rfl,rfl⟩:=h;exact H
 |l::ls,S,S',cs,h,r,x,J,H=>by
  have B:∀l∈ls,l.B8≠some r:=λl O=>J l (by simp[O])
  cases l with
  |t y=>
   simp only[D1]at h;split at h
   .cases h
   .split at h
    .rename_i S1 G c;simp only[AD,A6]at h;obtain⟨rfl,rfl⟩:=h;exact Qu c B H
    .cases h
  |al r' sub=>
   have E:r≠r':=by rintro rfl;exact J (.al r sub) (by simp) rfl
   simp only[D1]at h;split at h
   .rename_i y I;split at h
    .rename_i S1 G c;simp only[AD,A6]at h;obtain⟨rfl,rfl⟩:=h;exact Qu c B (AHY I E H)
    .cases h
   .cases h
  |vw s e xs=>
   cases s with
   |old k=>simp[D1]at h|own r' p=>
    have E:r≠r':=by rintro rfl;exact J (.vw (.own r p) e xs) (by simp) rfl
    cases p with
    |none=>
     simp only[D1]at h;split at h
     .rename_i y I;split at h
      .rename_i S1 G c;simp only[AD,A6]at h;obtain⟨rfl,rfl⟩:=h;exact Qu c B (AHY I E H)
      .cases h
     .cases h
    |some q=>
     obtain⟨i,j⟩:=q;simp only[D1]at h;split at h
     .cases h
     .split at h
      .rename_i S1 L;split at h
       .rename_i S2 G c;simp only[AD,A6]at h;obtain⟨rfl,rfl⟩:=h;obtain⟨X,rows,I,rfl⟩:=Ol L;exact Qu c B (by rw[PY I,AT E,H];rfl)
       .cases h
      .cases h
  |_=>simp[D1]at h
theorem Qt:∀{ls:List AS} {S S':St} {cs:List T},D1 S ls=some (S',cs)->∀{r:CL} {i j e:Nat} {xs:List (List T)},AS.vw (.own r (some (i,j))) e xs∈ls->∃G rows,S'.at r=some (.ow (.sl G rows))
 | [],S,S',cs,h,r,i,j,e,xs,B=>by simp at B|l::ls,S,S',cs,h,r,i,j,e,xs,B=>by
  cases l with
  |t y=>
   simp only[D1]at h;split at h
   .cases h
   .split at h
    .rename_i S1 E c;simp only[AD,A6]at h;obtain⟨rfl,rfl⟩:=h;exact Qt c (by simpa using B)
    .cases h
  |al r' sub=>
   simp only[D1]at h;split at h
   .rename_i y J;split at h
    .rename_i S1 E c;simp only[AD,A6]at h;obtain⟨rfl,rfl⟩:=h;exact Qt c (by simpa using B)
    .cases h
   .cases h
  |vw s O L=>
   cases s with
   |old k=>simp[D1]at h|own r' p=>
    cases p with
    |none=>
     simp only[D1]at h;split at h
     .rename_i y J;split at h
      .rename_i S1 E c;simp only[AD,A6]at h;obtain⟨rfl,rfl⟩:=h;exact Qt c (by simpa using B)
      .cases h
     .cases h
    |some q=>
     obtain⟨X,Y⟩:=q;simp only[D1]at h;split at h
     .cases h
     .rename_i H;split at h
      .rename_i S1 I;split at h
       .rename_i S2 E c;simp only[AD,A6]at h;obtain⟨rfl,rfl⟩:=h;rcases Ae.1 B with B|B
        .cases B;obtain⟨G,rows,J,rfl⟩:=Ol I;exact⟨G,_,Qu c (yZ (by simpa using H)) (by rw[PY J,AW rfl];rfl)⟩
        .exact Qt c B
       .cases h
      .cases h
  |_=>simp[D1]at h
theorem tT:∀{ms:List Md} {es:List Ent} {i:Nat} {md:Md} {e:Ent},ms[i]?=some md->es[i]?=some e->md.FP=true->List.Sublist e.cs (Hp ms es)
 | [],_,_,_,_,h,_,_=>by simp at h|_::_,[],_,_,_,_,h,_=>by simp at h|c::ms,B::es,0,md,e,j,q,y=>by
  grind[List.getElem?_cons_zero,Option.some.injEq,Hp,List.sublist_append_left]
 |c::ms,B::es,i+1,md,e,j,q,y=>by
  simp only[Hp];exact(tT (i:=i) (by simpa using j) (by simpa using q) y).trans (List.sublist_append_right _ _)
structure Blank(S S2:St)(ms:List Md)(es:List Ent):Prop where
 tm:S2.tm=S.tm
 pin:S2.pin=S.pin
 bx:∀id ls',get S2.bx id=some ls'->∃ls,get S.bx id=some ls/\ls'.length=ls.length
 ow:∀r x,S2.at r=some (.ow x)↔S.at r=some (.ow x)
 top:∀r,S.at r=some (.t .top)->S2.at r=some (.t .top)
 all:∀(i:Nat) id,ms[i]?=some Md.b->es[i]?=some ⟨.one,[.bp id 0]⟩->∀ls,get S2.bx id=some ls->∀l∈ls,l=.t .top
theorem fC:∀(ms:List Md) (es:List Ent) (S:St),Inv F S g a w->(∀(i:Nat) id,ms[i]?=some Md.b->es[i]?=some ⟨.one,[.bp id 0]⟩->∀c,¬CP S (.cell id c))->Inv F (E6 S ms es) g a w/\Blank S (E6 S ms es) ms es
 | [],es,S,h,_=>by
  have:E6 S [] es=S:=by cases es<;>rfl
  rw[this];exact⟨h,rfl,rfl,λ_ ls hl=>⟨ls,hl,rfl⟩,λ_ _=>Iff.rfl,λ_ h=>h,by intro i id H;simp at H⟩
 |md::ms,[],S,h,_=>by
  exact⟨h,rfl,rfl,λ_ ls hl=>⟨ls,hl,rfl⟩,λ_ _=>Iff.rfl,λ_ h=>h,by intro i id _ H;simp at H⟩
 |md::ms,e::es,S,h,hb=>by
  have hb':∀(i:Nat) id,ms[i]?=some Md.b->es[i]?=some ⟨.one,[.bp id 0]⟩->∀c,¬CP S (.cell id c):=λi id h1 B=>hb (i+1) id (by simpa using h1) (by simpa using B)
  have pass:(∀id,md=.b->e=⟨.one,[.bp id 0]⟩->get S.bx id=none)->Inv F (E6 S ms es) g a w/\Blank S (E6 S ms es) (md::ms) (e::es):=by
   intro hno;obtain⟨h1,B⟩:=fC ms es S h hb';refine⟨h1,B.tm,B.pin,B.bx,B.ow,B.top,?_⟩;intro i id H G ls y;cases i with
   |zero=>
    simp only[AN,AD]at H G;obtain⟨ls0,h0,_⟩:=B.bx id ls y;rw[hno id H G]at h0;cases h0
   |succ i=>exact B.all i id (by simpa using H) (by simpa using G) ls y
  simp only[E6];split
  .split
   .rename_i id;split
    .rename_i ls y;have hdead:=hb 0 id rfl rfl
     let S1:St:={ S with bx:=put S.bx id (ls.map λ_=>AS.t .top)}
     have I:∀r,S1.at r=match r with|.cell b c=>if b=id then (ls.map λ_=>AS.t .top)[c]? else S.at (.cell b c)|.tmp s c=>S.at (.tmp s c):=Nc
     have X:∀r x,S1.at r=some (.ow x)↔S.at r=some (.ow x):=by
      intro r x;rw[I];cases r with
      |tmp s c=>exact Iff.rfl|cell b c=>
       by_cases E:b=id
       .subst E;simp only[if_true];constructor
        .intro Z;rw[A0,AO]at Z;obtain⟨_,_,Z⟩:=Z;cases Z
        .intro Z;exact absurd ⟨x,Z⟩ (hdead c)
       .simp[E]
     have hI:Inv F S1 g a w:=by
      refine h.weaken (λs e' he'=>⟨e',he',rfl,rfl⟩) ?_ ?_ rfl
      .intro q ls' j;have:get (put S.bx id (ls.map λ_=>AS.t .top)) q=some ls':=j;rw[GG]at this;split at this
       .rename_i L;subst L;cases this;exact⟨ls,y,by simp⟩
       .exact⟨ls',this,rfl⟩
      .intro r l' j;have key:∀J x,S.at J=some (.ow x)->S1.at J=some (.ow x):=λJ x Y=>(X J x).2 Y
       rw[I]at j;cases r with
       |tmp s c=>exact .inr ⟨j,λJ x _ Y=>key J x Y⟩|cell b c=>
        by_cases E:b=id
        .subst E;simp only[if_true]at j;rw[A0,AO]at j;obtain⟨l0,h0,rfl⟩:=j;exact .inl ⟨rfl,by simp[St.at,y,h0]⟩
        .simp only[AT E]at j;exact .inr ⟨j,λJ x _ Y=>key J x Y⟩
     obtain⟨h1,B⟩:=fC ms es S1 hI (by
      intro i q H G c hal;obtain⟨x,Y⟩:=hal;exact hb' i q H G c ⟨x,(X _ x).1 Y⟩)
     have htop:∀r,S.at r=some (.t .top)->S1.at r=some (.t .top):=by
      intro r hr;rw[I];cases r with
      |tmp s c=>exact hr|cell b c=>
       by_cases E:b=id
       .subst E;simp only[St.at,y]at hr;simp[hr]
       .simp only[AT E];exact hr
     have hbx:∀q ls',get S1.bx q=some ls'->∃ls,get S.bx q=some ls/\ls'.length=ls.length:=by
      intro q ls' j;have:get (put S.bx id (ls.map λ_=>AS.t .top)) q=some ls':=j;rw[GG]at this;split at this
      .rename_i L;subst L;cases this;exact⟨ls,y,by simp⟩
      .exact⟨ls',this,rfl⟩
     refine⟨h1,B.tm,B.pin,?_,λr x=>(B.ow r x).trans (X r x),λr hr=>B.top r (htop r hr),?_⟩
     .intro q ls' j;obtain⟨l1,k1,k2⟩:=B.bx q ls' j;obtain⟨l0,k3,k4⟩:=hbx q l1 k1;exact⟨l0,k3,k2.trans k4⟩
     .intro i q H G ls' j l hl;cases i with
      |zero=>
       simp only[AN,AD]at G;cases G;obtain⟨l1,k1,k2⟩:=B.bx id ls' j;have hg:get S1.bx id=some (ls.map λ_=>AS.t .top):=by
        show get (put S.bx id (ls.map λ_=>AS.t .top)) id=_;rw[GG,AW rfl]
       rw[hg]at k1;cases k1;obtain⟨c,hc⟩:=B2 hl;have hlt:c<ls'.length:=(AP.1 hc).1;have h3:S1.at (.cell id c)=some (.t .top):=by
        rw[I];simp only[if_true];have hc0:c<ls.length:=by rw[k2]at hlt;simpa using hlt
        simp[hc0]
       have h4:=B.top _ h3;have hl2:get (E6 S1 ms es).bx id=some ls':=j;simp only[St.at,hl2,hc,AD]at h4;exact h4
      |succ i=>exact B.all i q (by simpa using H) (by simpa using G) ls' j l hl
    .rename_i y;exact pass λq _ G=>by cases G;exact y
   .rename_i O;exact pass λq _ G=>absurd G (O q)
  .rename_i O;exact pass λq H _=>absurd H O
def AcI(F:Fix)(S S2:St)(g:Gh)(w:World)(R:Nat->Blk)(G:Nat->Nat->Blk)(U:Nat->List Value)(us:List Value)(i:Nat)(md:Md)(e:Ent):Prop:=
 (match md with
 |.b=>∃id ls,e=⟨.one,[.bp id 0]⟩/\get S.bx id=some ls/\R i=F.R (Dh ls)/\U i=g.bv id/\(∀c b,G i c b↔c=0/\b=g.β id)/\us[i]?=some (.pointer (some ⟨g.β id,0,none⟩)) /\
  (∀ls,get S2.bx id=some ls->∀l∈ls,l=.t .top)
 |.m=>(U i).length=e.cs.length/\e.cs.Pairwise AWT/\∀(c:Nat) l,e.cs[c]?=some l->R5 l=true/\∃z,(U i)[c]?=some z/\B1 F S g w (λ_=>False) l z/\(∀r sub,l=.al r sub->S2.at r=some (.t .top)) /\
  ∀r p e xs,l=.vw (.own r (some p)) e xs->CP S2 r
 |_=>True)/\(md≠.p->∀lab,mU S e=some lab->∀b,R i b->F.R lab b)
def pR(S:St)(g:Gh)(ms:List Md)(es:List Ent)(b:Nat):Prop:=
 ∃(i:Nat) (md:Md) (e:Ent),ms[i]?=some md/\es[i]?=some e/\md.writes=true/\((∃id,e=⟨.one,[.bp id 0]⟩/\(get S.bx id).isSome/\b=g.β id)\/∃l r,l∈e.cs/\l.B8=some r/\CP S r/\g.fp r b)
theorem ALp:∀(es:List Ent) (us:List Value),us.length=es.length->(∀(i:Nat) e,es[i]?=some e->∃u,us[i]?=some u/\Rd F S g w e u) ->
 ∃Us:List (List Value),Us.length=es.length/\∀(i:Nat) e,es[i]?=some e->∃u xs,us[i]?=some u/\Us[i]?=some xs/\u=mkV e.sh xs/\xs.length=e.cs.length/\(∀x,AS.ow x∉e.cs) /\
  ∀(c:Nat) (l:AS),e.cs[c]?=some l->∃z,xs[c]?=some z/\B1 F S g w (λ_=>False) l z
 | [],us,q,_=>⟨[],rfl,by simp⟩|e::es,[],q,_=>by simp at q|e::es,u::us,q,h=>by
  obtain⟨Us,E,G⟩:=ALp es us (by simpa using q) (λi e H=>by simpa using h (i+1) e (by simpa using H));obtain⟨X,j,vs,I,J,L,O⟩:=h 0 e rfl;simp only[AN,AD]at j;subst j;refine⟨vs::Us,by simp[E],?_⟩;intro i B y;cases i with
  |zero=>
   grind[List.getElem?_cons_zero,Option.some.injEq]
  |succ i=>simpa using G i B (by simpa using y)
theorem AE1:∀(ms:List Md) (es:List Ent) (Us:List (List Value)),es.length=ms.length->Us.length=es.length->(∀(i:Nat) e xs,es[i]?=some e->Us[i]?=some xs->xs.length=e.cs.length) ->
 ∃lv:List Value,lv.length=(Hp ms es).length/\∀(i:Nat) md e xs c,ms[i]?=some md->es[i]?=some e->Us[i]?=some xs->md.FP=true->c<e.cs.length->lv[Si ms es i+c]?=xs[c]?
 | [],_,_,_,_,_=>⟨[],by simp[Hp],by simp⟩|_::_,[],_,h,_,_=>by simp at h|_::_,_::_,[],_,h,_=>by simp at h|md::ms,e::es,xs::Us,J,L,G=>by
  obtain⟨lv,Y,Z⟩:=AE1 ms es Us (by simpa using J) (by simpa using L) (λi e xs j q=>G (i+1) e xs (by simpa using j) (by simpa using q));have X:=G 0 e xs rfl rfl;refine⟨(if md.FP=true then xs else [])++lv,?_,?_⟩
  .simp only[Hp,AH,Y];split<;>simp[X]
  .intro i B I E c y j q H O;cases i with
   |zero=>
    simp only[AN,AD]at y j q;subst y j q;rw[Uk,AW H,Ar,BN (by omega)]
   |succ i=>
    have:=Z i B I E c (by simpa using y) (by simpa using j) (by simpa using q) H O;rw[<-this,Qq];split
    .rw[BH (by omega)];congr 1;omega
    .simp
theorem ATj{e}{lab}(h:mU S e=some lab)(y:∀id off,e≠⟨.one,[.bp id off]⟩)(q:l∈e.cs)(j:rdL F S g l b):F.R lab b:=by
 unfold mU at h;split at h
 .grind
 .split at h
  .rename_i B;cases h;obtain⟨cs,c⟩:=Br.1 B;obtain⟨x,E⟩:=(OM c).2.2 l q;rcases pb E with rfl|⟨G,xs,rfl,_⟩
   .exact j.elim
   .exact j
  .cases h
theorem eY{md}{e}(h:uA F S g md e b):(md.writes=false/\∃l∈e.cs,rdL F S g l b)\/F.K b:=by
 unfold uA at h;split at h
 .exact .inl ⟨rfl,h⟩
 .exact .inl ⟨rfl,h⟩
 .split at h
  .split at h
   .exact .inr (F.RK _ b h)
   .exact h.elim
  .exact h.elim
 .exact h.elim
set_option maxHeartbeats 2000000 in
theorem AWi(h:Inv F S g a w){ms:List Md}{es:List Ent}{us:List Value}{vs:List V}(hrd:∀(i:Nat) e,es[i]?=some e->∃u,us[i]?=some u/\Rd F S g w e u)(hlen:us.length=es.length)(hcl:QG [] ms es=false)
 (ha:WT S ms es=some (S2,vs)) :
 ∃R G U g1,JM F S S2 g g1 a w/\M6 F.A F.P w R G U ms vs us/\(∀i c b md,ms[i]?=some md->md.FP=true->G i c b->EZ F S2 g1 b) /\
  (∀(i:Nat) md e,ms[i]?=some md->es[i]?=some e->AcI F S S2 g w R G U us i md e)/\(∀i c b,G i c b->pR S g ms es b)/\es.length=ms.length:=by
 unfold WT at ha;split at ha
 .rename_i S1 cs hown;split at ha
  .rename_i vs' hmk;simp only[AD,A6]at ha;obtain⟨rfl,rfl⟩:=ha;obtain⟨hvl,hel,hget⟩:=ADw hmk;obtain⟨Us,hUl,hU⟩:=ALp (F:=F) (S:=S) (g:=g) (w:=w) es us hlen hrd;obtain⟨lv,hlv,hlvg⟩:=AE1 ms es Us hel hUl (by
    intro i e xs q hx;obtain⟨u,xs',_,Y,_,h4,_⟩:=hU i e q;rw[hx]at Y;cases Y;exact h4)
   have hclash:=ZK hcl hel;obtain⟨g1,hT,nf,⟨t1,t2,t3,t4,t5,t6⟩,hnf⟩:=YY h (ls:=Hp ms es) (vs:=lv) (by
    intro x hx;obtain⟨k,hk⟩:=B2 hx;obtain⟨i,md,e,c,h1,Y,h3,h4,h5,h6⟩:=Uv hk;obtain⟨u,xs,_,_,_,_,hno,_⟩:=hU i e Y;exact hno x (Au h6)) hlv (by
    intro k l hk;obtain⟨i,md,e,c,h1,Y,h3,h4,rfl,h6⟩:=Uv hk;obtain⟨u,xs,_,X,_,_,_,hok⟩:=hU i e Y;obtain⟨z,hz,hl⟩:=hok c l h6;refine⟨z,?_,λ_ _ _=>hl,λ_=>hl⟩;rw[hlvg i md e xs c h1 Y X h3 h4];exact hz) hown
   have htop:=(Tw hown).2;have hbare:∀(i:Nat) id,ms[i]?=some Md.b->es[i]?=some ⟨.one,[.bp id 0]⟩->∃ls,get S.bx id=some ls/\∃cs,F6 (Dh ls) ls=some cs:=by
    intro i id B q;obtain⟨V,_,hV⟩:=hget i _ _ B q;simp only[pV,Sn]at hV;split at hV
    .rename_i ls H;split at hV
     .rename_i cs hcs;exact⟨ls,H,cs,hcs⟩
     .cases hV
    .cases hV
   have hdead:∀(i:Nat) id,ms[i]?=some Md.b->es[i]?=some ⟨.one,[.bp id 0]⟩->∀c,¬CP S (.cell id c):=by
    rintro i id B q c ⟨x,hx⟩;obtain⟨ls,H,cs,hcs⟩:=hbare i id B q;simp only[St.at,H]at hx;obtain⟨y,hy⟩:=(OM hcs).2.2 _ (Au hx);simp[QC]at hy
   obtain⟨hB,hBl⟩:=fC ms es S1 hT.inv (λi id B q c Z=>hdead i id B q c (hT.al _ Z));have hbox:∀(i:Nat) e,ms[i]?=some Md.b->es[i]?=some e->∃id,e=⟨.one,[.bp id 0]⟩:=by
    intro i e B q;obtain⟨V,_,hV⟩:=hget i _ _ B q;simp only[pV,Sn]at hV;split at hV
    .rename_i id;exact⟨id,rfl⟩
    .cases hV
   let G:Nat->Nat->Blk:=λi c b=>match ms[i]?,es[i]? with|some .b,some e=>c=0/\∃id,e=⟨.one,[.bp id 0]⟩/\b=g.β id|some .o,some e=>c<e.cs.length/\nf (Si ms es i+c) b|some .m,some e=>c<e.cs.length/\nf (Si ms es i+c) b|_,_=>False
   let R:Nat->Blk:=λi=>match ms[i]?,es[i]? with|some md,some e=>uA F S g md e|_,_=>λ_=>False
   let U:Nat->List Value:=λi=>match ms[i]?,es[i]? with|some .b,some ⟨.one,[.bp id 0]⟩=>g.bv id|_,_=>Us.getD i []
   have hGt:∀{i c b md e},ms[i]?=some md->es[i]?=some e->md.FP=true->(G i c b↔c<e.cs.length/\nf (Si ms es i+c) b):=by
    intro i c b md e B q J;simp only[G,B,q];cases md<;>simp[Md.FP]at J<;>simp
   have hGb:∀{i c b id},ms[i]?=some Md.b->es[i]?=some ⟨.one,[.bp id 0]⟩->(G i c b↔c=0/\b=g.β id):=by
    intro i c b id B q;simp only[G,B,q];constructor
    .rintro⟨h1,id',Y,h3⟩;cases Y;exact⟨h1,h3⟩
    .rintro⟨h1,Y⟩;exact⟨h1,id,rfl,Y⟩
   have hGn:∀{i c b},G i c b->∃md e,ms[i]?=some md/\es[i]?=some e/\md.writes=true:=by
    intro i c b hG;simp only[G]at hG;split at hG
    .rename_i e h1 Y;exact⟨_,e,h1,Y,rfl⟩
    .rename_i e h1 Y;exact⟨_,e,h1,Y,rfl⟩
    .rename_i e h1 Y;exact⟨_,e,h1,Y,rfl⟩
    .exact hG.elim
   have hUi:∀{i md e},ms[i]?=some md->es[i]?=some e->md≠.b->∃xs,Us[i]?=some xs/\U i=xs:=by
    intro i md e B q hne;obtain⟨u,xs,_,X,_⟩:=hU i e q;refine⟨xs,X,?_⟩;simp only[U,B,q];split
    .rename_i h1 _;cases h1;exact absurd rfl hne
    .simp[List.getD,X]
   have hRi:∀{i md e},ms[i]?=some md->es[i]?=some e->R i=uA F S g md e:=by
    intro i md e B q;simp only[R,B,q]
   have hRm:∀{i b},R i b->∃md e,ms[i]?=some md/\es[i]?=some e/\uA F S g md e b:=by
    intro i b hR;simp only[R]at hR;cases B:ms[i]? with
    |none=>simp[B]at hR|some md=>
     cases q:es[i]? with
     |none=>simp[B,q]at hR|some e=>simp only[B,q]at hR;exact⟨md,e,rfl,rfl,hR⟩
   have hcsl:cs.length=(Hp ms es).length:=by rw[<-t1,hlv]
   have hidx:∀{i md e c},ms[i]?=some md->es[i]?=some e->md.FP=true->c<e.cs.length->Si ms es i+c<cs.length:=by
    intro i md e c B q J hc;have:=Uu B q J hc;rw[AR hc]at this;rw[hcsl];exact(AP.1 this).1
   have hGw:∀{i c b e},G i c b->es[i]?=some e->(∃id,e=⟨.one,[.bp id 0]⟩/\(get S.bx id).isSome/\b=g.β id)\/∃l r,l∈e.cs/\l.B8=some r/\CP S r/\g.fp r b:=by
    intro i c b e hG q;obtain⟨md,e',B,he',hw⟩:=hGn hG;rw[q]at he';cases he';by_cases hmb:md=.b
    .subst hmb;obtain⟨id,rfl⟩:=hbox i e B q;obtain⟨ls,H,_⟩:=hbare i id B q;exact .inl ⟨id,rfl,by simp[H],((hGb B q).1 hG).2⟩
    .have J:md.FP=true:=by cases md<;>simp_all[Md.FP,Md.writes]
     obtain⟨hc,hn⟩:=(hGt B q J).1 hG;obtain⟨l,r,h1,Y,h3,h4⟩:=hnf _ b (hidx B q J hc) hn;rw[Uu B q J hc]at h1;exact .inr ⟨l,r,Au h1,Y,h3,h4⟩
   have hKb:∀{j c b e},G j c b->es[j]?=some e->¬F.K b:=by
    intro j c b e hG q hk;rcases hGw hG q with ⟨id,_,hs,rfl⟩|⟨l,r,_,_,Z,hf⟩
    .exact h.bxR id hs hk
    .exact h.HM r Z b hf hk
   have hbpon:∀id,GA id (.bp id 0)=true:=λid=>by simp[GA,AS.Mg]
   have rg:∀i j c b,R i b->¬G j c b:=by
    intro i j c b hR hG;obtain⟨mdj,ej,hmj,hej,hwj⟩:=hGn hG;have hRc:F.K b\/∃mdi ei,ms[i]?=some mdi/\es[i]?=some ei/\mdi.writes=false/\∃l∈ei.cs,rdL F S g l b:=by
     obtain⟨mdi,ei,h1,Y,hR⟩:=hRm hR;rcases eY hR with ⟨hw,hR⟩|hk
     .exact .inr ⟨_,ei,h1,Y,hw,hR⟩
     .exact .inl hk
    rcases hRc with hk|⟨mdi,ei,O,L,hwi,l,hl,hrl⟩
    .exact hKb hG hej hk
    .have hne:j≠i:=by
      rintro rfl;rw[hmj]at O;cases O;rw[hwj]at hwi;cases hwi
     have hsh:=(hclash j mdj ej hmj hej hwj).2 i ei L hne;rcases s6 hrl with hk|⟨r1,hr1,hal1,hf1⟩|⟨id1,hid1,hs1,hb1⟩
     .exact hKb hG hej hk
     .rcases hGw hG hej with ⟨id,rfl,hs,rfl⟩|⟨l',r,hl',hr,Z,hf⟩
      .exact h.Fh r1 id hal1 hs hf1
      .by_cases hrr:r=r1
       .subst hrr;exact(Hj hsh hl' hl).1 r hr hr1
       .exact h.dis r r1 Z hal1 hrr b hf hf1
     .rcases hGw hG hej with ⟨id,rfl,hs,hbe⟩|⟨l',r,hl',hr,Z,hf⟩
      .have hoff:=(Hj hsh (l:=.bp id 0) (by simp) hl).2.2 id1 hid1;rcases hb1 with hb1|⟨c1,hal1,hf1⟩
       .have:id1=id:=h.Gr id1 id hs1 hs (hb1.symm.trans hbe);subst this;rw[hbpon]at hoff;cases hoff
       .subst hbe;exact h.Fh _ id hal1 hs hf1
      .have hoff:=(Hj hsh hl' hl).2.2 id1 hid1;rcases hb1 with rfl|⟨c1,hal1,hf1⟩
       .exact h.Fh r id1 Z hs1 hf
       .by_cases hrr:r=.cell id1 c1
        .subst hrr;exact Ou hoff hr
        .exact h.dis r _ Z hal1 hrr b hf hf1
   have gg:∀i c j d b,G i c b->(i≠j\/c≠d)->¬G j d b:=by
    intro i c j d b hGi hne hGj;obtain⟨mdi,ei,O,L,hwi⟩:=hGn hGi;obtain⟨mdj,ej,hmj,hej,hwj⟩:=hGn hGj;by_cases hij:i=j
    .subst hij;rw[O]at hmj;cases hmj;rw[L]at hej;cases hej;have hcd:c≠d:=by rcases hne with h|h;exact absurd rfl h;exact h
     by_cases hmb:mdi=.b
     .subst hmb;obtain⟨id,rfl⟩:=hbox i ei O L;exact hcd (((hGb O L).1 hGi).1.trans ((hGb O L).1 hGj).1.symm)
     .have J:mdi.FP=true:=by cases mdi<;>simp_all[Md.FP,Md.writes]
      obtain⟨h1,Y⟩:=(hGt O L J).1 hGi;obtain⟨h3,h4⟩:=(hGt O L J).1 hGj;exact t6 _ _ b (hidx O L J h1) (hidx O L J h3) (by omega) Y h4
    .have hsh:=(hclash i mdi ei O L hwi).2 j ej hej hij;rcases hGw hGi L with ⟨id,rfl,hs,rfl⟩|⟨l,r,hl,hr,Z,hf⟩
     .rcases hGw hGj hej with ⟨id',rfl,hs',hbe⟩|⟨l',r',hl',hr',hal',hf'⟩
      .have:id=id':=h.Gr id id' hs hs' hbe;subst this;have:=(Hj hsh (l:=.bp id 0) (l':=.bp id 0) (by simp) (by simp)).2.1 id (by simp[names]);rw[hbpon]at this;cases this
      .exact h.Fh r' id hal' hs hf'
     .rcases hGw hGj hej with ⟨id',rfl,hs',rfl⟩|⟨l',r',hl',hr',hal',hf'⟩
      .exact h.Fh r id' Z hs' hf
      .by_cases hrr:r=r'
       .subst hrr;exact(Hj hsh hl hl').1 r hr hr'
       .exact h.dis r r' Z hal' hrr b hf hf'
   have hes:∀{i:Nat} {md:Md},ms[i]?=some md->∃e,es[i]?=some e:=by
    intro i md B;have:i<ms.length:=(AP.1 B).1;exact⟨es[i]'(by omega),by simp[hel,this]⟩
   have hOwn:∀{i md e},ms[i]?=some md->es[i]?=some e->md.FP=true->ze w (G i) ((cs.drop (Si ms es i)).take e.cs.length) (U i)/\((cs.drop (Si ms es i)).take e.cs.length).length=e.cs.length:=by
    intro i md e B q J;obtain⟨xs,X,hUx⟩:=hUi B q (by rintro rfl;simp[Md.FP]at J);obtain⟨u,xs',_,E,_,hxl,_⟩:=hU i e q;rw[X]at E;cases E;have hl:((cs.drop (Si ms es i)).take e.cs.length).length=e.cs.length:=by
     rw[Aj,List.length_drop];by_cases h0:e.cs.length=0
     .omega
     .have:=hidx B q J (c:=e.cs.length-1) (by omega);omega
    refine⟨⟨by rw[hUx,hxl,hl],?_⟩,hl⟩;intro c x hx;rw[List.getElem?_take]at hx;split at hx
    .rename_i hc;rw[Bz]at hx;obtain⟨z,hz,ho⟩:=t2 _ x hx;rw[hlvg i md e xs c B q X J hc]at hz;exact⟨z,by rw[hUx];exact hz,ho.congr λb=>(hGt B q J).trans ⟨λh=>h.2,λh=>⟨hc,h⟩⟩⟩
    .cases hx
   refine⟨R,G,U,g1,⟨hB,?_,?_,hBl.pin.trans hT.pin,hT.tv,hT.bv,hT.β,hT.fp⟩,⟨hvl,by rw[hlen,hel],?_,?_,rg,gg,?_⟩,?_,?_,?_,hel⟩
   .intro r x' hx';exact hT.ADt r x' ((hBl.ow r x').1 hx')
   .intro id hid;obtain⟨ls,H⟩:=Br.1 hid;obtain⟨ls0,h0,_⟩:=hBl.bx id ls H;exact hT.bx id (by simp[h0])
   .intro i md V u B hV hu;obtain⟨e,q⟩:=hes B;obtain⟨V',hV',I⟩:=hget i md e B q;rw[hV]at hV';cases hV';obtain⟨u',xs,hu',X,hue,hxl,hno,hok⟩:=hU i e q;rw[hu]at hu';cases hu';have taken:md.FP=true->∀{sh cs'},(V=.o sh cs'\/V=.m sh cs')->sh=e.sh->cs'=(cs.drop (Si ms es i)).take e.cs.length->u=mkV sh (U i)/\ze w (G i) cs' (U i)/\∀c b,G i c b->c<cs'.length:=by
     rintro J sh cs' _ rfl rfl;obtain⟨o1,o2⟩:=hOwn B q J;obtain⟨xs',E,hUx⟩:=hUi B q (by rintro rfl;simp[Md.FP]at J);rw[X]at E;cases E;exact⟨by rw[hUx];exact hue,o1,λc b hG=>by rw[o2];exact((hGt B q J).1 hG).1⟩
    have other:md.FP=false->Sn S md e=some V->bH F.A F.P w (R i) (G i) (U i) md V u:=by
     intro J hv;rw[hRi B q];refine AWh h hv (by
      obtain⟨u',hu',hr⟩:=hrd i e q;rw[hu]at hu';cases hu';exact hr) ?_ ?_ ?_ ?_
     .intro hne;obtain⟨xs',E,hUx⟩:=hUi B q hne;rw[X]at E;cases E;rw[hUx];exact⟨hue,hxl,hno,hok⟩
     .rintro id rfl rfl;simp only[U,B,q]
     .intro hne c b hG;obtain⟨md',e',hm',_,hw⟩:=hGn hG;rw[B]at hm';cases hm';cases md<;>simp[Md.FP,Md.writes]at J hw hne
     .rintro id rfl rfl c b;exact hGb B q
    cases md with
    |o=>have hmk1':V=_:=I;subst hmk1';exact taken rfl (.inl rfl) rfl rfl|m=>obtain⟨hmk1',_⟩:=I;subst hmk1';exact taken rfl (.inr rfl) rfl rfl
    |v=>exact other rfl I|p=>exact other rfl I|b=>exact other rfl I
   .intro i b hR;obtain⟨mdi,ei,h1,Y,hR⟩:=hRm hR;rcases eY hR with ⟨hw,l,_,hl⟩|hk
    .exact AZy h hl
    .exact BY (h.rlt b hk) h.size
   .intro i c b hG;obtain⟨md,e,B,_⟩:=hGn hG;exact(AP.1 B).1
   .intro i c b md B J hG;obtain⟨e,q⟩:=hes B;obtain⟨hc,hn⟩:=(hGt B q J).1 hG;have hk:=hidx B q J hc;refine⟨t3 _ b hk hn,λr hr=>t4 _ r b hk ?_ hn,λid hid hbe=>t5 _ id hk ?_ (hbe▸hn)⟩
    .obtain⟨x,hx⟩:=hr;exact⟨x,(hBl.ow r x).1 hx⟩
    .obtain⟨ls,H⟩:=Br.1 hid;obtain⟨ls0,h0,_⟩:=hBl.bx id ls H;simp[h0]
   .intro i md e B q;obtain⟨V',hV',I⟩:=hget i md e B q;obtain⟨u,xs,hu,X,hue,hxl,hno,hok⟩:=hU i e q;constructor
    .cases md with
     |v=>trivial|p=>trivial|o=>trivial|b=>
      obtain⟨id,rfl⟩:=hbox i e B q;obtain⟨ls,H,_⟩:=hbare i id B q;refine⟨id,ls,rfl,H,?_,?_,λc b=>hGb B q,?_,λls' hl'=>hBl.all i id B q ls' hl'⟩
      .rw[hRi B q];funext b;simp[uA,H]
      .simp only[U,B,q]
      .obtain⟨u',hu',hr⟩:=hrd i _ q;have:u'=_:=YV hr rfl;rw[hu',this]
     |m=>
      obtain⟨xs',E,hUx⟩:=hUi B q (by simp);rw[X]at E;cases E;obtain⟨_,hpl,_⟩:=I;refine⟨by rw[hUx];exact hxl,(Qs hown).sublist (tT B q rfl),?_⟩;intro c l hl;obtain⟨z,hz,hlz⟩:=hok c l hl;have hmem:l∈Hp ms es:=by
       have hc:c<e.cs.length:=(AP.1 hl).1;have:=Uu B q (by rfl) hc;rw[hl]at this;exact Au this
      refine⟨(CG.1 hpl) l (Au hl),z,by rw[hUx];exact hz,hlz,?_,?_⟩
      .rintro r sub rfl;exact hBl.top r (htop r sub hmem)
      .rintro r ⟨i',j'⟩ e' xs' rfl;obtain⟨e0,rows,hx⟩:=Qt hown hmem;exact⟨_,(hBl.ow r _).2 hx⟩
    .intro hmd lab hlab b hR;rw[hRi B q]at hR;cases md with
     |v=>
      obtain⟨l,hl,hrl⟩:=hR;refine ATj hlab ?_ hl hrl;rintro id off rfl;simp[pV,Sn,St.Hk,St.Hr]at I
     |p=>exact absurd rfl hmd|o=>exact hR.elim|m=>exact hR.elim|b=>
      obtain⟨id,rfl⟩:=hbox i e B q;obtain⟨ls,H,_⟩:=hbare i id B q;simp only[uA,H]at hR;simp only[mU,H]at hlab;split at hlab
      .cases hlab;exact hR
      .cases hlab
   .intro i c b hG;obtain⟨md,e,B,q,hw⟩:=hGn hG;exact⟨i,md,e,B,q,hw,hGw hG q⟩
  .cases ha
 .cases ha
end
section
variable{F:Fix}{S S' S1 S2:St}{g g' g1:Gh}{a a':Act}{w w':World}
variable{N:Blk}{ok:CL->Prop}
def Fix.ext(F:Fix)(Z:Blk)(w:World):Fix:=
 { F with R:=λk b=>F.R k b\/Z b,K:=λb=>F.K b\/Z b,RK:=λk b h=>h.elim (λh=>.inl (F.RK k b h)) .inr,w0:=w}
theorem Fe.ext{l}{v}{Z}{w1}(h:Fe F g w l v):Fe (F.ext Z w1) g w l v:=by
 match l,h with
 |.t _,h=>exact h|.und,h=>exact h|.vw (.old k) e xs,h=>
  have hV:View w (F.R k) (.sl e xs) v:=h;exact hV.up λb c=>.inl c
 |.vp (.old k) cs,h=>
  have hV:Vb w (F.R k) cs v:=h;exact hV.up λb c=>.inl c
 |.bp _ _,h=>exact h
theorem B1.ext{fp}{l}{v}{Z}{w1}(h:B1 F S g w fp l v):B1 (F.ext Z w1) S g w fp l v:=by
 match l,h with
 |.ow _,h=>exact h|.al _ _,h=>exact h|.ep _ _ _,h=>exact h|.vw (.own _ _) _ _,h=>exact h|.vp (.own _ _) _,h=>exact h|.fn f caps,⟨n,cv,j,q,y,B⟩=>exact⟨n,cv,j,q,y,λi l c G E=>(B i l c G E).ext⟩|.t x,h=>exact Fe.ext (F:=F) (g:=g) (w:=w) (Z:=Z) (w1:=w1) (l:=.t x) h|.und,h=>exact Fe.ext (F:=F) (g:=g) (w:=w) (Z:=Z) (w1:=w1) (l:=.und) h|.vw (.old k) e xs,h=>exact Fe.ext (F:=F) (g:=g) (w:=w) (Z:=Z) (w1:=w1) (l:=.vw (.old k) e xs) h|.vp (.old k) cs,h=>exact Fe.ext (F:=F) (g:=g) (w:=w) (Z:=Z) (w1:=w1) (l:=.vp (.old k) cs) h|.bp i o,h=>exact Fe.ext (F:=F) (g:=g) (w:=w) (Z:=Z) (w1:=w1) (l:=.bp i o) h
theorem Inv.ext(h:Inv F S g a w){Z}(hZ:∀b,Z b->b<w.heap.size/\(∀r,CP S r->¬g.fp r b)/\∀id,(get S.bx id).isSome->b≠g.β id):Inv (F.ext Z w) S g a w where
 C0 r l E:=let ⟨v,G,q⟩:=h.C0 r l E;⟨v,G,q.ext⟩
 tms:=h.tms
 bxs:=h.bxs
 dis:=h.dis
 Fh:=h.Fh
 HM r B b y c:=by
  rcases c with c|j
  .exact h.HM r B b y c
  .exact(hZ b j).2.1 r B y
 Gr:=h.Gr
 bxR id e c:=by
  rcases c with c|j
  .exact h.bxR id e c
  .exact(hZ _ j).2.2 id e rfl
 FD _ _:=rfl
 rlt b c:=by
  rcases c with c|j
  .exact BY (h.rlt b c) h.size
  .exact(hZ b j).1
 still:=.refl
 defs:=h.defs
 tsz:=h.tsz
 pin:=h.pin
theorem Inv.called(h:Inv F S g a w){B:Nat->Prop}{nb:Nat->List Value}(hs:Still w w')
 (hw:∀b,b<w.heap.size->(F.K b\/(∃r,CP S r/\g.fp r b)\/∃id,(get S.bx id).isSome/\¬B id/\b=g.β id)->w'.heap[b]?=w.heap[b]?)
 (hB:∀id ls,B id->get S.bx id=some ls->(∀l∈ls,l=.t .top)/\∃E,w'.heap[g.β id]?=some (.cells (nb id).toArray E (0,0))/\(nb id).length=(g.bv id).length)
 (X:∀id,¬B id->nb id=g.bv id):Inv F S { g with bv:=nb} a w':=by
 have hR:∀b,F.K b->w'.heap[b]?=w.heap[b]?:=λb e=>hw b (BY (h.rlt b e) h.size) (.inl e)
 have H:∀r,CP S r->∀b,g.fp r b->w'.heap[b]?=w.heap[b]?:=by
  intro r hr b e;obtain⟨x,G⟩:=hr;obtain⟨v,_,q⟩:=h.C0 r _ G;exact hw b (Own.lt q b e) (.inr (.inl ⟨r,⟨x,G⟩,e⟩))
 have hdead:∀id c x,B id->S.at (.cell id c)≠some (.ow x):=by
  intro id c x e G;cases j:get S.bx id with
  |none=>simp[St.at,j]at G|some ls=>
   simp only[St.at,j]at G;have:=(hB id ls e j).1 _ (Au G);cases this
 have O:∀r,CP S r->({ g with bv:=nb}:Gh).rv r=g.rv r:=by
  rintro r ⟨x,G⟩;cases r with
  |tmp s c=>rfl|cell id c=>
   have:¬B id:=λe=>hdead id c x e G
   simp[Gh.rv,X id this]
 refine { C0:=?_,tms:=h.tms,bxs:=?_,dis:=h.dis,Fh:=h.Fh,HM:=h.HM,Gr:=h.Gr,bxR:=h.bxR,FD:=?_,rlt:=h.rlt,still:=h.still.trans hs,defs:=h.defs,tsz:=h.tsz,pin:=h.pin}
 .intro r l y;obtain⟨v,Z,q⟩:=h.C0 r l y;by_cases J:∃x,l=.ow x
  .obtain⟨x,rfl⟩:=J;exact⟨v,by rw[O r ⟨x,y⟩];exact Z,Own.frame q (H r ⟨x,y⟩)⟩
  .have I:∀x,l≠.ow x:=λx G=>J ⟨x,G⟩
   have tr:B1 F S { g with bv:=nb} w' (g.fp r) l v:=
    B1.any I ((B1.any (fp':=λ_=>False) I q).tr (S':=S) (g':={ g with bv:=nb}) (w':=w') (λr1 L=>⟨rfl,O r1 (q.alive L),λ_ h=>h,H r1 (q.alive L)⟩) (λ_ _=>rfl) (λ_ h=>h.elim) hR)
   cases r with
   |tmp s c=>exact⟨v,Z,tr⟩|cell id c=>
    by_cases e:B id
    .cases j:get S.bx id with
     |none=>simp[St.at,j]at y|some ls=>
      simp only[St.at,j]at y;obtain⟨k1,E,k2,k3⟩:=hB id ls e j;have:=k1 _ (Au y);subst this;have Y:c<(nb id).length:=by
       rw[k3,(h.bxs id ls j).2];exact(AP.1 y).1
      exact⟨(nb id)[c],by simp[Gh.rv,Y],B1.top⟩
    .exact⟨v,by simpa[Gh.rv,X id e] using Z,tr⟩
 .intro id ls y;obtain⟨⟨E,hE⟩,h2⟩:=h.bxs id ls y;by_cases e:B id
  .obtain⟨k1,E',k2,k3⟩:=hB id ls e y;exact⟨⟨E',k2⟩,k3.trans h2⟩
  .refine⟨⟨E,?_⟩,by rw[show ({ g with bv:=nb}:Gh).bv id=g.bv id from X id e];exact h2⟩;rw[show ({ g with bv:=nb}:Gh).bv id=g.bv id from X id e];exact(hw _ (BB.1 hE).1 (.inr (.inr ⟨id,by simp[y],e,rfl⟩))).trans hE
 .intro b e;exact(hR b e).trans (h.FD b e)
theorem Own.fill{e:Nat}{rows:List (List T)}{blk off len cap:Nat}{fp D:Blk}{i j:Nat}{x y:T}{z:Value}(h:Own w (.sl e rows) (.slice (some ⟨blk,off,none⟩) len cap) fp)(O:at2 rows i j=some y)
 (hz:w.cell? ⟨blk,off+i*e+j,none⟩=some z) (ho:Own w x z D) (hD:∀b,D b->¬fp b) :
 ∃fp':Blk,Own w (.sl e (Jg rows i j x)) (.slice (some ⟨blk,off,none⟩) len cap) fp'/\∀b,fp' b->fp b\/D b:=by
 cases h with
 |sc h _ _=>exact h.elim|sl c f h1 h2 h3 Z h5 Y h7 h8 h9 X=>
  have hc:c i j=z:=by
   rw[Z.cell,Y i j y O]at hz;exact Option.some.inj hz
  subst hc;have hi:=uC O;have L:fp _:=(X _).2 (.inl rfl);have J:∀q B E,at2 (Jg rows i j x) q B=some E->(q=i/\B=j/\E=x)\/(¬(q=i/\B=j)/\at2 rows q B=some E):=by
   intro q B E H;rw[zu O]at H;split at H
   .rename_i I;exact .inl ⟨I.1,I.2,(Option.some.inj H).symm⟩
   .rename_i I;exact .inr ⟨I,H⟩
  refine⟨λb=>b=_\/∃q B E,at2 (Jg rows i j x) q B=some E/\(if q=i/\B=j then D else f q B) b,
   .sl c (λq B=>if q=i/\B=j then D else f q B) (by rw[Q2];exact h1) h2 (tK h3 hi) Z h5 ?_ ?_ ?_ ?_ (λb=>Iff.rfl),?_⟩
  .intro q B E H;rcases J q B E H with ⟨rfl,rfl,rfl⟩|⟨I,G⟩
   .exact Y _ _ _ O
   .exact Y _ _ _ G
  .intro q B E H;rcases J q B E H with ⟨rfl,rfl,rfl⟩|⟨I,G⟩
   .simpa using ho
   .rw[AT I];exact h7 _ _ _ G
  .intro q B E H;rcases J q B E H with ⟨rfl,rfl,rfl⟩|⟨I,G⟩
   .simp only[and_self,if_true];exact λhb=>hD _ hb L
   .rw[AT I];exact h8 _ _ _ G
  .grind
  .grind
structure La(S S':St)(g g':Gh)(N:Blk)(ok:CL->Prop):Prop where
 tv:g'.tv=g.tv
 bv:g'.bv=g.bv
 β:g'.β=g.β
 fp:∀r,CP S' r->∀b,g'.fp r b->(CP S r/\g.fp r b)\/N b
 pin:S'.pin=S.pin
 bx:∀id ls',get S'.bx id=some ls'->∃ls,get S.bx id=some ls/\ls'.length=ls.length
 bx2:∀id ls,get S.bx id=some ls->∃ls',get S'.bx id=some ls'
 top:∀r,¬ok r->S.at r=some (.t .top)->S'.at r=some (.t .top)
 ow:∀r x,¬ok r->S'.at r=some (.ow x)->S.at r=some (.ow x)
 al:∀r,CP S' r->CP S r\/ok r
theorem La.rv(h:La S S' g g' N ok) r :g'.rv r=g.rv r:=by cases r<;>simp[Gh.rv,h.tv,h.bv]
theorem La.refl:La S S g g (λ_=>False) (λ_=>False):=⟨rfl,rfl,rfl,λ_ c _ h=>.inl ⟨c,h⟩,rfl,λ_ ls h=>⟨ls,h,rfl⟩,λ_ ls h=>⟨ls,h⟩,λ_ _ h=>h,λ_ _ _ h=>h,λ_ h=>.inl h⟩
theorem La.trans{G}{N'}{q}(h:La S S' g g' N ok)(e:La S' S2 g' G N' q):La S S2 g G (λb=>N b\/N' b) (λr=>ok r\/q r) where
 tv:=e.tv.trans h.tv
 bv:=e.bv.trans h.bv
 β:=e.β.trans h.β
 fp r c b j:=by
  rcases e.fp r c b j with ⟨c,j⟩|j
  .rcases h.fp r c b j with j|j
   .exact .inl j
   .exact .inr (.inl j)
  .exact .inr (.inr j)
 pin:=e.pin.trans h.pin
 bx id ls' y:=let ⟨E,B,J⟩:=e.bx id ls' y;let ⟨X,L,O⟩:=h.bx id E B;⟨X,L,J.trans O⟩
 bx2 id ls y:=let ⟨E,B⟩:=h.bx2 id ls y;e.bx2 id E B
 top r c H:=e.top r (λh=>c (.inr h)) (h.top r (λh=>c (.inl h)) H)
 ow r x c I:=h.ow r x (λh=>c (.inl h)) (e.ow r x (λh=>c (.inr h)) I)
 al r c:=by
  rcases e.al r c with c|c
  .rcases h.al r c with c|c
   .exact .inl c
   .exact .inr (.inl c)
  .exact .inr (.inr c)
theorem La.mono{N'}{j}(h:La S S' g g' N ok)(hN:∀b,N b->N' b)(c:∀r,ok r->j r):La S S' g g' N' j:=
 { h with fp:=λr e b q=>(h.fp r e b q).imp id (hN b),top:=λr e=>h.top r λh=>e (c r h),ow:=λr x e=>h.ow r x λh=>e (c r h),al:=λr e=>(h.al r e).imp id (c r)}
theorem EZ.oz{b}(h:EZ F S g b)(hC:La S S' g g' N ok)(hN:¬N b):EZ F S' g' b:=by
 refine⟨h.1,λr B c=>?_,λid j=>?_⟩
 .rcases hC.fp r B b c with ⟨e,c⟩|c
  .exact h.2.1 r e c
  .exact hN c
 .rw[hC.β];obtain⟨ls,q⟩:=Br.1 j;obtain⟨E,y,_⟩:=hC.bx id ls q;exact h.2.2 id (by simp[y])
theorem Inv.ADR(h:Inv F S g a w){r:CL}{x:T}{z:Value}{D:Blk}(hr:S.at r=some (.t .top))(hz:g.rv r=some z)(ho:Own w x z D)(hD:∀b,D b->EZ F S g b) :
 Inv F (S.Bi r (.ow x)) { g with fp:=λr'=>if r'=r then D else g.fp r'} a w/\La S (S.Bi r (.ow x)) g { g with fp:=λr'=>if r'=r then D else g.fp r'} D (λr'=>r'=r):=by
 have I:∀r',(S.Bi r (.ow x)).at r'=if r'=r then some (.ow x) else S.at r':=λr'=>E5 hr _ r'
 have hdead:¬CP S r:=by rintro⟨y,O⟩;rw[hr]at O;cases O
 have B:∀r',CP (S.Bi r (.ow x)) r'->r'=r\/(r'≠r/\CP S r'):=by
  rintro r' ⟨y,O⟩;rw[I]at O;split at O
  .exact .inl (by assumption)
  .exact .inr ⟨by assumption,y,O⟩
 have hsome:∀id,(get (S.Bi r (.ow x)).bx id).isSome=(get S.bx id).isSome:=λid=>Dv
 constructor
 .refine { C0:=?_,tms:=?_,bxs:=?_,dis:=?_,Fh:=?_,HM:=?_,Gr:=λid id' q H=>h.Gr id id' (by rwa[<-hsome]) (by rwa[<-hsome]),bxR:=λid q=>h.bxR id (by rwa[<-hsome]),FD:=h.FD,rlt:=h.rlt,still:=h.still,defs:=h.defs,tsz:=h.tsz,pin:=?_}
  .intro r' l L;rw[I]at L;split at L
   .rename_i heq;subst heq;cases L;refine⟨z,hz,?_⟩;simp only[if_true];exact ho
   .rename_i j;obtain⟨v,hv,hok⟩:=h.C0 r' l L;refine⟨v,hv,?_⟩;simp only[AT j];refine hok.off (r:=r) ?_ ?_ ?_ (λZ=>by cases Z<;>rfl) rfl
    .intro hroot;exact hdead (hok.alive hroot)
    .intro Z J _;rw[I,AT J]
    .intro Z J;simp[J]
  .intro s e he;obtain⟨e0,q,H,h3⟩:=MX he;obtain⟨p1,p2,p3⟩:=h.tms s e0 q;exact⟨p1,by rw[p2,H],by rw[p3,h3]⟩
  .intro id ls L;obtain⟨l0,q,H⟩:=JV L;obtain⟨p1,p2⟩:=h.bxs id l0 q;exact⟨p1,by rw[p2,H]⟩
  .intro X r2 q H j b c E;dsimp only at c E;rcases B X q with rfl|⟨n1,a1⟩
   .rw[AW rfl]at c;rcases B r2 H with rfl|⟨n2,a2⟩
    .exact j rfl
    .rw[AT n2]at E;exact(hD b c).2.1 r2 a2 E
   .rw[AT n1]at c;rcases B r2 H with rfl|⟨n2,a2⟩
    .rw[AW rfl]at E;exact(hD b E).2.1 X a1 c
    .rw[AT n2]at E;exact h.dis X r2 a1 a2 j b c E
  .intro X id q Y c;rw[hsome]at Y;dsimp only at c;rcases B X q with rfl|⟨n1,a1⟩
   .rw[AW rfl]at c;exact(hD _ c).2.2 id Y rfl
   .rw[AT n1]at c;exact h.Fh X id a1 Y c
  .intro X q b c;dsimp only at c;rcases B X q with rfl|⟨n1,a1⟩
   .rw[AW rfl]at c;exact(hD _ c).1
   .rw[AT n1]at c;exact h.HM X a1 b c
  .intro p hp;rw[HZ]at hp;obtain⟨q,H⟩:=h.pin p hp;exact⟨q,λhs=>H (by rwa[<-hsome])⟩
 .refine⟨rfl,rfl,rfl,?_,HZ,?_,?_,?_,?_,?_⟩
  .intro r' G b c;dsimp only at c;rcases B r' G with rfl|⟨j,G⟩
   .rw[AW rfl]at c;exact .inr c
   .rw[AT j]at c;exact .inl ⟨G,c⟩
  .intro id ls' L;obtain⟨l0,q,H⟩:=JV L;exact⟨l0,q,H⟩
  .intro id ls L;have:(get (S.Bi r (.ow x)).bx id).isSome:=by rw[hsome];simp[L]
   exact Br.1 this
  .intro r' j ht;rw[I,AT j];exact ht
  .intro r' y j O;rw[I,AT j]at O;exact O
  .intro r' G;rcases B r' G with rfl|⟨_,G⟩
   .exact .inr rfl
   .exact .inl G
theorem Inv.AP7(h:Inv F S g a w){r:CL}{e:Nat}{rows:List (List T)}{blk off len cap i j:Nat}{x y:T}{z:Value}{D:Blk}(B:S.at r=some (.ow (.sl e rows)))(Z:g.rv r=some (.slice (some ⟨blk,off,none⟩) len cap))(hy:at2 rows i j=some y)
 (hz:w.cell? ⟨blk,off+i*e+j,none⟩=some z) (ho:Own w x z D) (hD:∀b,D b->EZ F S g b) :
 ∃g',Inv F ((S.Bi r (.ow (.sl e (Jg rows i j x)))).kill (Fo r)) g' a w/\La S ((S.Bi r (.ow (.sl e (Jg rows i j x)))).kill (Fo r)) g g' D (λr'=>r'=r):=by
 obtain⟨u',J,I⟩:=h.C0 r _ B;rw[Z]at J;cases J;obtain⟨fp',o1,Y⟩:=Own.fill I hy hz ho (λb c=>(hD b c).2.1 r ⟨_,B⟩);have H:=h.yk (w':=w) (ys:=Jg rows i j x) (fp':=fp') B Z Q2 Still.refl (λ_ _ _=>rfl) o1 (λb c=>by
  rcases Y b c with c|c
  .exact h.HM r ⟨_,B⟩ b c
  .exact(hD b c).1) (λr' q E b c=>by
  rcases Y b c with c|c
  .exact h.dis r r' ⟨_,B⟩ q (Ne.symm E) b c
  .exact(hD b c).2.1 r' q)
  (λid G c=>by
   rcases Y _ c with c|c
   .exact h.Fh r id ⟨_,B⟩ G c
   .exact(hD _ c).2.2 id G rfl)
 have L:∀r',CP ((S.Bi r (.ow (.sl e (Jg rows i j x)))).kill (Fo r)) r'->CP S r':=by
  rintro r' ⟨y',O⟩;obtain⟨y0,X,_⟩:=sd B Q2 r' y' O;exact⟨y0,X⟩
 refine⟨_,H,rfl,rfl,rfl,?_,AEI,?_,?_,?_,?_,λr' q=>.inl (L r' q)⟩
 .grind
 .grind[St.kill,DY,Option.map_eq_some_iff,JV,Fa]
 .grind[get,Jg,Dv,Option.isSome_iff_exists,Eo,Fo,St.kill,DY]
 .intro r' E ht;rw[PY B,AT E,ht];rfl
 grind[PY,Option.map_eq_some_iff]
def Place(S:St)(g:Gh)(w:World)(l:AS)(z:Value):Prop:=
 match l with
 |.al r none=>S.at r=some (.t .top)/\g.rv r=some z|.vw (.own r (some (i,j))) _ _=>∃e0 n blk off len cap,g.rv r=some (.slice (some ⟨blk,off,none⟩) len cap)/\w.cell? ⟨blk,off+i*e0+j,none⟩=some z/\i<n/\j<e0/\∀e1 rows,S.at r=some (.ow (.sl e1 rows))->e1=e0/\rows.length=n|_=>True
theorem Place.oz{l}{z}(h:Place S g w l z)(hC:La S S' g g' N ok)(c:∀r,l.B8=some r->¬ok r):Place S' g' w l z:=by
 unfold Place at h ⊢;split at h
 .rename_i r;exact⟨hC.top r (c r rfl) h.1,(hC.rv r).trans h.2⟩
 .rename_i r i j _ _;obtain⟨e,n,blk,off,len,cap,y,B,E,G,H⟩:=h;exact⟨e,n,blk,off,len,cap,(hC.rv r).trans y,B,E,G,λq rows I=>H q rows (hC.ow r _ (c r rfl) I)⟩
 .trivial
theorem OZ:∀(ls:List AS) (os:List T) (us:List Value) (D:Nat->Blk) (S S':St) (g:Gh),Inv F S g a w->Hn S ls os=some S'->(∀(c:Nat) l,ls[c]?=some l->∃z,us[c]?=some z/\Place S g w l z) ->
 (∀(c:Nat) x,os[c]?=some x->∃z,us[c]?=some z/\Own w x z (D c))->(∀c b,D c b->EZ F S g b)->(∀c d b,c≠d->D c b->¬D d b)->ls.Pairwise AWT ->
 ∃g',Inv F S' g' a w/\La S S' g g' (λb=>∃c,D c b) (λr=>∃l∈ls,l.B8=some r)
 | [],os,us,D,S,S',g,h,q,_,_,_,_,_=>by
  cases os with
  |nil=>simp only[Hn,AD]at q;subst q;exact⟨g,h,La.refl.mono (λ_ h=>h.elim) (λ_ h=>h.elim)⟩|cons=>simp[Hn]at q
 |l::ls,[],us,D,S,S',g,h,q,_,_,_,_,_=>by simp[Hn]at q|l::ls,o::os,us,D,S,S',g,h,q,hp,ho,hl,hd,hdist=>by
  obtain⟨hd1,hd2⟩:=List.pairwise_cons.1 hdist;obtain⟨z,hz,J⟩:=hp 0 l rfl;obtain⟨Z,B,I⟩:=ho 0 o rfl;rw[hz]at B;cases B;have next:∀(S1:St) (g1:Gh),Inv F S1 g1 a w->La S S1 g g1 (D 0) (λr=>l.B8=some r)->Hn S1 ls os=some S' ->
   ∃g',Inv F S' g' a w/\La S S' g g' (λb=>∃c,D c b) (λr=>∃l'∈l::ls,l'.B8=some r):=by
   intro S1 g1 h1 hC1 hf1;obtain⟨g2,h2,hC2⟩:=OZ ls os us.tail (λc=>D (c+1)) S1 S' g1 h1 hf1 (by
    intro c l' H;obtain⟨Z,B,L⟩:=hp (c+1) l' (by simpa using H);exact⟨Z,by rw[Ju];exact B,L.oz hC1 λr O G=>hd1 l' (Au H) r G O⟩) (by
    intro c x Y;obtain⟨Z,B,ho'⟩:=ho (c+1) x (by simpa using Y);exact⟨Z,by rw[Ju];exact B,ho'⟩)
    (λc b E=>(hl (c+1) b E).oz hC1 (hd (c+1) 0 b (by omega) E)) (λc d b hne E=>hd _ _ b (by omega) E) hd2
   refine⟨g2,h2,(hC1.trans hC2).mono ?_ ?_⟩
   .rintro b (E|⟨c,E⟩)
    .exact⟨0,E⟩
    .exact⟨c+1,E⟩
   .rintro r (O|⟨l',H,O⟩)
    .exact⟨l,by simp,O⟩
    .exact⟨l',by simp[H],O⟩
  simp only[Hn]at q;split at q
  .rename_i r;obtain⟨k1,k2⟩:=J;obtain⟨q1,q2⟩:=h.ADR k1 k2 I (λb E=>hl 0 b E);exact next _ _ q1 (q2.mono (λ_ h=>h) (λr' G=>by subst G;rfl)) q
  .rename_i r i j e' xs';split at q
   .rename_i e rows Y;obtain⟨e0,n,blk,off,len,cap,k1,k2,k3,k4,k5⟩:=J;obtain⟨rfl,k6⟩:=k5 e rows Y;obtain⟨u,hu,hO⟩:=h.C0 r _ Y;have X:∀row∈rows,row.length=e:=by
     have hO':Own w (.sl e rows) u (g.fp r):=hO;cases hO' with
     |sc hh _ _=>exact hh.elim|nl=>simp|sl c f p1 p2 p3=>exact p3
    obtain⟨y,hy⟩:=OJ X (i:=i) (j:=j) (by omega) k4;obtain⟨g1,q1,q2⟩:=h.AP7 Y k1 hy k2 I (λb E=>hl 0 b E);exact next _ _ q1 (q2.mono (λ_ h=>h) (λr' G=>by subst G;rfl)) q
   .cases q
  .refine next S g h ?_ q;exact La.refl.mono (λ_ h=>h.elim) (λ_ h=>h.elim)
  .cases q
end
section
variable{F:Fix}{S S' S0 S1 S2:St}{g g' g1:Gh}{a a':Act}{w w':World}
theorem Tl{k}{x y}:Eh k x≠.ow y:=by cases x<;>simp[Eh]
theorem Qi{k:Nat}{x:T}{v:Value}{fp:Blk}(h:View w (F.R k) x v):B1 F S g w fp (Eh k x) v:=by
 cases x with
 |sl e xs=>exact h|mp ks=>trivial|_=>cases h with|sc h=>exact h
theorem Inv.AXK(h:Inv F S g a w){id lab:Nat}{q:List AS}{o:List T}(B:get S.bx id=some q)(X:∀l∈q,l=.t .top)(L:o.length=q.length)(hv:Kn w (F.R lab) o (g.bv id)) :
 ∃g',Inv F { S with bx:=Lv.put S.bx id (o.map (Eh lab))} g' a w/\La S { S with bx:=Lv.put S.bx id (o.map (Eh lab))} g g' (λ_=>False) (λr=>∃c,r=.cell id c):=by
 obtain⟨⟨E,hE⟩,Y⟩:=h.bxs id q B;have hsome:(get S.bx id).isSome:=by simp[B]
 have hdead:∀c x,S.at (.cell id c)≠some (.ow x):=by
  intro c x e;simp only[St.at,B]at e;cases X _ (Au e)
 have J:=h.ALb (w':=w) (d:=id) (blk:=g.β id) (E:=E) (vs:=g.bv id) (ls:=o.map (Eh lab)) (nf:=λ_ _=>False) Still.refl (λ_ _ _=>rfl) hE (h.bxR id hsome) (λr O=>h.Fh r id O hsome)
  (λid' j hs Z=>j (h.Gr id' id hs hsome Z)) (.inl rfl) (λl _ c x _ e=>absurd e (hdead c x)) (by rw[Ac,L];exact Y) (by
   intro c l hl;rw[A0,AO]at hl;obtain⟨x,e,rfl⟩:=hl;obtain⟨z,hz,hV⟩:=hv.2 c x e;exact⟨z,hz,Qi hV⟩) (by
   intro c x e;rw[A0,AO]at e;obtain⟨y,_,hy⟩:=e;exact absurd hy Tl) (λ_=>⟨hsome,rfl⟩)
 have I:∀r,(∀c,r≠.cell id c)->({ S with bx:=Lv.put S.bx id (o.map (Eh lab))}:St).at r=S.at r:=by
  grind[Nc]
 have H:∀c x,({ S with bx:=Lv.put S.bx id (o.map (Eh lab))}:St).at (.cell id c)≠some (.ow x):=by
  intro c x e;rw[Nc]at e;simp only[if_true]at e;rw[A0,AO]at e;obtain⟨y,_,hy⟩:=e;exact Tl hy
 have G:∀r,CP ({ S with bx:=Lv.put S.bx id (o.map (Eh lab))}:St) r->(∀c,r≠.cell id c)/\CP S r:=by
  rintro r ⟨x,e⟩;have j:∀c,r≠.cell id c:=by rintro c rfl;exact H c x e
  exact⟨j,x,by rw[I r j]at e;exact e⟩
 refine⟨_,J,rfl,?_,?_,?_,rfl,?_,?_,?_,?_,λr O=>.inl (G r O).2⟩
 .funext i;by_cases hh:i=id<;>simp[Gh.GP,hh]
 .funext i;by_cases hh:i=id<;>simp[Gh.GP,hh]
 .intro r O b hb;obtain⟨j,hr'⟩:=G r O;refine .inl ⟨hr',?_⟩;cases r with
  |tmp s c=>exact hb|cell b' c=>
   have:b'≠id:=by rintro rfl;exact j c rfl
   simpa[Gh.GP,this] using hb
 .grind[get,Lv.put,Eh,GG]
 .grind[get,Lv.put,Eh,GG]
 .intro r j ht;rw[I r (λc hc=>j ⟨c,hc⟩)];exact ht
 grind
def Job(F:Fix)(S0 S:St)(g:Gh)(w:World)(R:Nat->Blk)(Z:Blk)(U:Nat->List Value)(us:List Value)(i:Nat)(md:Md)(e:Ent):Prop:=
 match md with
 |.b=>∃id ls,e=⟨.one,[.bp id 0]⟩/\get S0.bx id=some ls/\(∀b,R i b\/Z b->F.R (Dh ls) b)/\us[i]?=some (.pointer (some ⟨g.β id,0,none⟩))/\∀ls1,get S.bx id=some ls1->∀l∈ls1,l=.t .top|.m=>∀(c:Nat) l,e.cs[c]?=some l->∃z,(U i)[c]?=some z/\Place S g w l z|_=>True
theorem Job.oz{R:Nat->Blk}{Z:Blk}{U:Nat->List Value}{us:List Value}{i:Nat}{md:Md}{e:Ent}{N:Blk}{ok:CL->Prop}(h:Job F S0 S g w R Z U us i md e)(hC:La S S' g g' N ok)
 (hm:∀l∈e.cs,∀r,l.B8=some r->¬ok r) (Y:∀id c,e=⟨.one,[.bp id 0]⟩->¬ok (.cell id c)):Job F S0 S' g' w R Z U us i md e:=by
 unfold Job at h ⊢;split at h
 .obtain⟨id,ls,G,J,L,O,X⟩:=h;refine⟨id,ls,G,J,L,by rw[hC.β];exact O,?_⟩;intro E q l B;obtain⟨j,I,k2⟩:=hC.bx id E q;obtain⟨c,H⟩:=B2 B;have y:c<j.length:=by rw[<-k2];exact(AP.1 H).1
  have:=hC.top (.cell id c) (Y id c G) (by simp[St.at,I,y,X j I j[c] (Ak y)]);simp only[St.at,q,H,AD]at this;exact this
 .intro c l B;obtain⟨z,hz,hp⟩:=h c l B;exact⟨z,hz,hp.oz hC (hm l (Au B))⟩
 .trivial
theorem AIF{R}{Z}{D}{U}{us}(I:∀p c q d b,D p c b->(p≠q\/c≠d)->¬D q d b) :
 ∀(ms:List Md) (es:List Ent) (outs:List (List T)) (i:Nat) (S S':St) (g:Gh),Inv F S g a w->F5 S0 S ms es outs=some S'->Pg w R Z D U us i ms outs ->
 (∀(k:Nat) md e,ms[k]?=some md->es[k]?=some e->Job F S0 S g w R Z U us (i+k) md e)->(∀(k:Nat) e,ms[k]?=some Md.m->es[k]?=some e->e.cs.Pairwise AWT) ->
 (∀(k G:Nat) md e y,ms[k]?=some md->es[k]?=some e->md.writes=true->es[G]?=some y->k≠G->shares e y=false) ->
 (∀p c b,i+1<=p->D p c b->EZ F S g b)->∃g',Inv F S' g' a w/\La S S' g g' (λb=>∃p c,i+1<=p/\D p c b) (λ_=>True)
 | [],es,outs,i,S,S',g,h,j,_,_,_,_,_=>by
  cases outs with
  |nil=>simp only[F5,AD]at j;subst j;exact⟨g,h,La.refl.mono (λ_ h=>h.elim) (λ_ _=>trivial)⟩|cons=>simp[F5]at j
 |md::ms,[],outs,i,S,S',g,h,j,_,_,_,_,_=>by simp[F5]at j|md::ms,e::es,outs,i,S,S',g,h,j,hO,hJ,hP,X,hL=>by
  have next:∀(S1:St) (g1:Gh) (N:Blk) (ok:CL->Prop) (os:List (List T)),Inv F S1 g1 a w->La S S1 g g1 N ok->F5 S0 S1 ms es os=some S'->Pg w R Z D U us (i+1) ms os ->
   (∀b,N b->∃c,D (i+1) c b)->(∀(G:Nat) y,es[G]?=some y->(∀l∈y.cs,∀r,l.B8=some r->¬ok r)/\∀id c,y=⟨.one,[.bp id 0]⟩->¬ok (.cell id c)) ->
   ∃g',Inv F S' g' a w/\La S S' g g' (λb=>∃p c,i+1<=p/\D p c b) (λ_=>True):=by
   intro S1 g1 N ok os h1 hC1 H hO1 hN hok;obtain⟨g2,h2,hC2⟩:=AIF I ms es os (i+1) S1 S' g1 h1 H hO1 (by
    intro k Y y hm J;have:=hJ (k+1) Y y (by simpa using hm) (by simpa using J);rw[show i+1+k=i+(k+1) by omega];exact this.oz hC1 (hok k y J).1 (hok k y J).2) (λk y hm J=>hP (k+1) y (by simpa using hm) (by simpa using J))
    (λk G Y e1 e2 hm J hw B hne=>X (k+1) (G+1) Y e1 e2 (by simpa using hm) (by simpa using J) hw (by simpa using B) (by omega)) (by
    intro p c b hp hD;refine(hL p c b (by omega) hD).oz hC1 ?_;intro hn;obtain⟨c',hD'⟩:=hN b hn;exact I p c (i+1) c' b hD (.inl (by omega)) hD')
   refine⟨g2,h2,(hC1.trans hC2).mono ?_ (λ_ _=>trivial)⟩;rintro b (j|⟨p,c,hp,hD⟩)
   .obtain⟨c,hD⟩:=hN b j;exact⟨i+1,c,Ab _,hD⟩
   .exact⟨p,c,by omega,hD⟩
  have pass:Pg w R Z D U us (i+1) ms outs->F5 S0 S ms es outs=some S'->∃g',Inv F S' g' a w/\La S S' g g' (λb=>∃p c,i+1<=p/\D p c b) (λ_=>True):=
   λhO1 H=>next S g _ _ outs h La.refl H hO1 (λ_ h=>h.elim) (λ_ _ _=>⟨λ_ _ _ _ h=>h,λ_ _ _ h=>h⟩)
  have hj:=hJ 0 md e rfl rfl;cases md with
  |v=>exact pass hO (by simpa[F5] using j)|p=>exact pass hO (by simpa[F5] using j)|o=>exact pass hO (by simpa[F5] using j)|b=>
   obtain⟨id,ls,rfl,h2,h3,h4,h5⟩:=hj;obtain⟨o,os,rfl,⟨blk,us',E,k1,k2,k3,k4⟩,hO1⟩:=hO;simp only[C9]at h3 h4;simp only[F5]at j;split at j
   .rename_i ls0 ls1 h0 h1;rw[h2]at h0;cases h0;split at j
    .rename_i hlen;rw[h4]at k1;cases k1;obtain⟨⟨E',hE'⟩,_⟩:=h.bxs id ls1 h1;rw[hE']at k2;have hbv:g.bv id=us':=by
      have:=Option.some.inj k2;simp only[Obj.cells.injEq]at this;simpa using congrArg Array.toList this.1
     subst hbv;obtain⟨g1,q1,q2⟩:=h.AXK h1 (h5 ls1 h1) hlen ⟨k4.1,λc x hx=>let ⟨z,hz,hV⟩:=k4.2 c x hx;⟨z,hz,hV.up h3⟩⟩;refine next _ g1 _ _ os q1 q2 j hO1 (λ_ h=>h.elim) ?_;intro G y B;have hs:=X 0 (G+1) .b _ y rfl rfl rfl (by simpa using B) (by omega);constructor
     .rintro l hl r hr ⟨c,rfl⟩;have:=(Hj hs (l:=.bp id 0) (by simp) hl).2.1 id (by simp[names]);exact Ou this hr
     .rintro id' c rfl ⟨c',hc'⟩;cases hc';have:=(Hj hs (l:=.bp id 0) (l':=.bp id 0) (by simp) (by simp)).2.1 id (by simp[names]);simp[GA,AS.Mg]at this
    .cases j
   .cases j
  |m=>
   obtain⟨o,os,rfl,k1,hO1⟩:=hO;simp only[F5]at j;split at j
   .rename_i S1 hf;simp only[Job,C9]at hj;obtain⟨g1,q1,q2⟩:=OZ e.cs o (U i) (D (i+1)) S S1 g h hf hj k1.2 (λc b hD=>hL (i+1) c b (Ab _) hD) (λc d b hne hD=>I _ _ _ _ b hD (.inr hne)) (hP 0 e rfl rfl);refine next _ g1 _ _ os q1 q2 j hO1 (λ_ h=>h) ?_;intro G y B;have hs:=X 0 (G+1) .m e y rfl rfl rfl (by simpa using B) (by omega);constructor
    .rintro l hl r hr ⟨l0,L,O⟩;exact(Hj hs L hl).1 r O hr
    .rintro id c rfl ⟨l0,L,O⟩;have:=(Hj hs L (l':=.bp id 0) (by simp)).2.2 id (by simp[names]);exact Ou this O
   .cases j
def Fix.Le(F F':Fix):Prop:=∃Z w1,F'=F.ext Z w1/\(∀b,F.K b->w1.heap[b]?=F.w0.heap[b]?)/\Still F.w0 w1/\∀b,Z b->¬F.K b
theorem Fix.Le.refl:F.Le F:=⟨λ_=>False,F.w0,by simp[Fix.ext],λ_ _=>rfl,.refl,λ_ h=>h.elim⟩
theorem Fix.Le.trans{F1 F2}(h:F.Le F1)(e:F1.Le F2):F.Le F2:=by
 obtain⟨Z1,w1,rfl,j,q,y⟩:=h;obtain⟨Z2,I,rfl,E,G,H⟩:=e;refine⟨λb=>Z1 b\/Z2 b,I,?_,λb c=>(E b (.inl c)).trans (j b c),q.trans G,?_⟩
 .simp only[Fix.ext]
  grind
 .rintro b (c|c)
  .exact y b c
  .exact λB=>H b c (.inl B)
theorem Fix.Le.P{F1}(h:F.Le F1):F1.P=F.P/\F1.A=F.A/\F1.N=F.N/\F1.pv=F.pv/\F1.β0=F.β0:=by
 obtain⟨Z1,w1,rfl,_⟩:=h;exact⟨rfl,rfl,rfl,rfl,rfl⟩
theorem AEA{R}{Z}{D}{U}{us}:∀(ms:List Md) (i:Nat) (outs:List (List T)),Pg w' R Z D U us i ms outs->∀(k:Nat),ms[k]?=some Md.b ->
 ∃(blk:Nat) (c:List Value) (E:TypeId),us[i+k]?=some (.pointer (some ⟨blk,0,none⟩))/\w'.heap[blk]?=some (.cells c.toArray E (0,0))/\c.length=(U (i+k)).length
 | [],_,_,_,k,e=>by simp at e|md::ms,i,outs,h,k,e=>by
  have rcs:∀os,Pg w' R Z D U us (i+1) ms os->0<k->∃(blk:Nat) (c:List Value) (E:TypeId),us[i+k]?=some (.pointer (some ⟨blk,0,none⟩))/\w'.heap[blk]?=some (.cells c.toArray E (0,0))/\c.length=(U (i+k)).length:=by
   intro os j y;obtain⟨q,rfl⟩:∃q,k=q+1:=⟨k-1,by omega⟩;have:=AEA ms (i+1) os j q (by simpa using e);rw[show i+1+q=i+(q+1) by omega]at this;exact this
  by_cases y:k=0
  .subst y;simp only[AN,AD]at e;subst e;obtain⟨o,os,rfl,⟨blk,c,E,B,G,H,_⟩,_⟩:=h;exact⟨blk,c,E,B,G,H⟩
  .cases md with
   |b=>obtain⟨o,os,rfl,_,j⟩:=h;exact rcs os j (by omega)
   |m=>obtain⟨o,os,rfl,_,j⟩:=h;exact rcs os j (by omega)
   |v=>exact rcs outs h (by omega)|p=>exact rcs outs h (by omega)|o=>exact rcs outs h (by omega)
theorem mZ{x}{v}{fp}(h:Own w x v fp):B1 F S g w fp (KR x) v:=by
 cases x with
 |sl e xs=>exact h|nil=>exact h|mp ks=>exact h|_=>cases h with|sc h _ _=>exact h
theorem Inv.AaH(h:Inv F S g a w){d lab blk:Nat}{E:TypeId}{us:List Value}{cs:List T}(hd:d<F.N)(X:Qm S d (cs.map (Eh lab))=some S')(I:w.heap[blk]?=some (.cells us.toArray E (0,0)))(hv:Kn w (F.R lab) cs us)
 (j:EZ F S g blk):∃g',Inv F S' g' (a.put (some d) (.pointer (some ⟨blk,0,none⟩))) w:=by
 unfold Qm at X;split at X
 .cases X
 .rename_i hp;cases X;have hq:∀x,NJ d (.ow x)=false:=λx=>rfl
  have hqt:NJ d (.t .top)=false:=rfl;have hk:=h.kill (NJ d) hq
  let S1:=S.kill (NJ d)
  have Y:∀r,CP S1 r->CP S r:=by
   rintro r ⟨x,H⟩;have O:(S.kill (NJ d)).at r=some (.ow x):=H;rw[Hw,AO]at O;obtain⟨l,j,G⟩:=O;split at G
   .cases G
   .subst G;exact⟨x,j⟩
  have hsome:∀id,(get S1.bx id).isSome->(get S.bx id).isSome:=by
   intro id hid;have J:(get (S.kill (NJ d)).bx id).isSome:=hid;simpa only[St.kill,DY,Eu] using J
  have hfree:∀r l,S1.at r=some l->NJ d l=false:=λr l j=>MG (NJ d) hqt j
  have L:∀l,NJ d l=false->d∉names l/\∀c,l.B8≠some (.cell d c):=by
   intro l j;simp only[NJ,FJ]at j;exact⟨aa j.2,λc=>Ou j.2⟩
  have hI:=hk.ALb (w':=w) (d:=d) (blk:=blk) (E:=E) (vs:=us) (ls:=cs.map (Eh lab)) (nf:=λ_ _=>False) Still.refl (λ_ _ _=>rfl) I j.1 (λr hr=>j.2.1 r (Y r hr)) (λid _ hs Z=>j.2.2 id (hsome id hs) Z.symm)
   (.inr ⟨λr l j _=>(L l (hfree r l j)).1,λl q=>by
    obtain⟨x,_,rfl⟩:=Ej.1 q;cases x<;>simp[Eh,names]⟩) (by
   rintro l (q|⟨r,hr,_⟩) c x hroot _
   .obtain⟨y,_,rfl⟩:=Ej.1 q;cases y<;>simp[Eh,AS.B8]at hroot
   .exact absurd hroot ((L l (hfree r l hr)).2 c)) (by simpa using hv.1) (by
   intro c l q;rw[A0,AO]at q;obtain⟨x,H,rfl⟩:=q;obtain⟨z,hz,hV⟩:=hv.2 c x H;exact⟨z,hz,Qi hV⟩) (by
   intro c x H;rw[A0,AO]at H;obtain⟨y,_,hy⟩:=H;exact absurd hy Tl) (λhp'=>absurd hp' hp)
  have B:∀{l},NJ d l=false->GA d l=false/\FO d l=false:=by
   intro l j;simp only[NJ,FJ]at j;exact⟨j.2,j.1⟩
  refine⟨_,hI.put (d:=d) (e:=⟨.one,[.bp d 0]⟩) (vs:=[.pointer (some ⟨blk,0,none⟩)]) (nf:=λ_ _=>False) hd hp ?_ ?_ ?_⟩
  .intro r l j _;rw[Nc]at j;cases r with
   |tmp s c=>exact(B (hfree _ _ j)).2|cell b c=>
    simp only at j;split at j
    .rw[A0,AO]at j;obtain⟨y,_,rfl⟩:=j;cases y<;>simp[Eh,FO,AS.B8]
    .exact(B (hfree _ _ j)).2
  .simp[FO,AS.B8]
  .refine Cells.free rfl ?_ (by simp);intro c l j;cases c with|zero=>simp only[AN,AD]at j;subst j;exact⟨_,rfl,by show _=_;simp[Gh.GP]⟩|succ c=>simp at j
theorem EZ.fresh(h:Inv F S g a w){b}(H:w.heap.size<=b):EZ F S g b:=by
 refine⟨λy=>?_,λr B q=>?_,λid c I=>?_⟩
 .have:=h.rlt b y;have:=h.size;omega
 .obtain⟨x,G⟩:=B;obtain⟨v,_,j⟩:=h.C0 r _ G;have:=Own.lt j b q;omega
 .obtain⟨ls,e⟩:=Br.1 c;obtain⟨⟨E,hE⟩,_⟩:=h.bxs id ls e;have:=(BB.1 hE).1;omega
set_option maxHeartbeats 1000000 in
theorem AWt(h:Inv F S g a w){d:Nat}{f:CQ}{es:List Ent}{us:List Value}{vs:List V}{sh:Sh}{cs:List T}{outs:List (List T)}(hd:d<F.N)(hrd:∀(i:Nat) e,es[i]?=some e->∃u,us[i]?=some u/\Rd F S g w e u)(hlen:us.length=es.length)
 (hpre:pre f es S=some (S1,vs)) (hpost:post d f es S S1 sh cs outs=some S2) {n:Nat} (hct:∀R G U,M6 F.A F.P w R G U (E4 f) vs us ->
  Calls F.P n us.toArray w λe w'=>∃v Z D,e=.returned v/\ot w w' R G U (E4 f) us sh cs outs v Z D) :
 Calls F.P n us.toArray w λe w'=>∃v F' g',e=.returned v/\F.Le F'/\Inv F' S2 g' (a.put (some d) v) w'/\∀b,b<w.heap.size->¬pR S g (E4 f) es b->w'.heap[b]?=w.heap[b]?:=by
 unfold pre at hpre;split at hpre
 .cases hpre
 .rename_i hcl;have hcl':QG [] (E4 f) es=false:=by simpa using hcl
  obtain⟨R,G,U,g1,hT,hA,hLs,hB,hGC,hel⟩:=AWi h hrd hlen hcl' hpre;have hclash:=ZK hcl' hel;refine(hct R G U hA).mono ?_;rintro e w' ⟨v,Z,D,rfl,hK⟩;have h1:=hT.inv;have hes:∀{i:Nat} {md:Md},(E4 f)[i]?=some md->∃e,es[i]?=some e:=by
   intro i md L;have:i<(E4 f).length:=(AP.1 L).1;exact⟨es[i]'(by omega),by simp[hel,this]⟩
  have hG:∀{i c b},G i c b->∃md e,(E4 f)[i]?=some md/\es[i]?=some e/\((md.FP=true/\EZ F S1 g1 b)\/(md=.b/\∃id,e=⟨.one,[.bp id 0]⟩/\(get S.bx id).isSome/\b=g.β id)):=by
   intro i c b J;have hi:=hA.out i c b J;have L:(E4 f)[i]?=some (E4 f)[i]:=by simp[hi]
   obtain⟨e,X⟩:=hes L;refine⟨_,e,L,X,?_⟩;by_cases ht:((E4 f)[i]).FP=true
   .exact .inl ⟨ht,hLs i c b _ L ht J⟩
   .have H:=(hB i _ e L X).1;obtain⟨j,md,e',k1,k2,k3,k4⟩:=hGC i c b J;have hmd:(E4 f)[i]=.b:=by
     have I:=hA.arg i _ (vs[i]'(by rw[hA.Nn];exact hi)) (us[i]'(by rw[hA.mb];exact hi)) L (by simp[hA.Nn,hi]) (by simp[hA.mb,hi]);generalize (E4 f)[i]=md at *;cases md with
     |v=>
      unfold bH at I;split at I<;>first|exact absurd J (I.2.2 c b)|exact absurd J (I.2 c b)|(rename_i h1 _;cases h1)|exact I.elim
     |p=>
      unfold bH at I;split at I<;>first|exact absurd J (I.2 c b)|(rename_i h1 _;cases h1)|exact I.elim
     |b=>rfl|o=>simp[Md.FP]at ht|m=>simp[Md.FP]at ht
    rw[hmd]at H;obtain⟨id,ls,q1,q2,q3,q4,q5,q6,q7⟩:=H;exact .inr ⟨hmd,id,q1,by simp[q2],((q5 c b).1 J).2⟩
  have hbxs:∀id,(get S1.bx id).isSome->(get S.bx id).isSome:=hT.bx;have hGK:∀{i c b},G i c b->¬F.K b:=by
   intro i c b J hk;obtain⟨md,e,_,_,⟨_,O⟩|⟨_,id,_,hs,rfl⟩⟩:=hG J
   .exact O.1 hk
   .exact h.bxR id hs hk
  have hGal:∀{i c b r},G i c b->CP S1 r->¬g1.fp r b:=by
   intro i c b r J hr hf;obtain⟨md,e,_,_,⟨_,O⟩|⟨_,id,_,hs,rfl⟩⟩:=hG J
   .exact O.2.1 r hr hf
   .exact h.Fh r id (hT.al r hr) hs (hT.fp r _ hf)
  let B:Nat->Prop:=λid=>∃i:Nat,(E4 f)[i]?=some .b/\es[i]?=some ⟨.one,[.bp id 0]⟩
  have hnew:∀id,B id->∃us':List Value,(∃E,w'.heap[g1.β id]?=some (.cells us'.toArray E (0,0)))/\us'.length=(g1.bv id).length:=by
   rintro id ⟨i,L,X⟩;obtain⟨id',ls,q1,q2,q3,q4,q5,q6,q7⟩:=(hB i _ _ L X).1;cases q1;obtain⟨blk,us',E,k1,k2,k3⟩:=AEA (E4 f) 0 outs hK.outs i L;rw[Ar,q6]at k1;rw[Ar]at k3;cases k1;exact⟨us',⟨E,by rw[hT.β];exact k2⟩,by rw[k3,q4,hT.bv]⟩
  obtain⟨nb,hnb⟩:∃nb:Nat->List Value,(∀id,B id->(∃E,w'.heap[g1.β id]?=some (.cells (nb id).toArray E (0,0)))/\(nb id).length=(g1.bv id).length)/\∀id,¬B id->nb id=g1.bv id:=by
   classical
   refine⟨λid=>if H:B id then (hnew id H).choose else g1.bv id,λid H=>?_,λid H=>by simp[H]⟩;simp only[H,dif_pos];exact(hnew id H).choose_spec
  have h2:Inv F S1 { g1 with bv:=nb} a w':=by
   refine h1.called (B:=B) hK.still ?_ ?_ hnb.2
   .intro b H hc;refine hK.frame b H ?_;intro i c J;rcases hc with hc|⟨r,hr,hc⟩|⟨id,hid,hnB,rfl⟩
    .exact hGK J hc
    .exact hGal J hr hc
    .obtain⟨md,e,L,X,⟨_,O⟩|⟨rfl,id',rfl,hs,heq⟩⟩:=hG J
     .exact O.2.2 id hid rfl
     .rw[hT.β]at heq;have:=h.Gr id id' (hbxs id hid) hs heq;subst this;exact hnB ⟨i,L,X⟩
   .rintro id ls ⟨i,L,X⟩ hls;obtain⟨id',ls',q1,q2,q3,q4,q5,q6,q7⟩:=(hB i _ _ L X).1;cases q1;obtain⟨⟨E,hE⟩,O⟩:=hnb.1 id ⟨i,L,X⟩;exact⟨q7 ls hls,E,hE,O⟩
  have hSp:∀b,pW w (E4 f) G b->EZ F S1 g1 b:=by
   rintro b (hf|⟨j,d',md,L,ht,J⟩)
   .exact EZ.fresh h1 hf
   .exact hLs j d' b md L ht J
  have hZf:∀b,Z b->EZ F S1 { g1 with bv:=nb} b:=by
   intro b hz;have:=hSp b (hK.z b hz).1;exact⟨this.1,this.2.1,this.2.2⟩
  have h3:Inv (F.ext Z w') S1 { g1 with bv:=nb} a w':=h2.ext λb hz=>⟨(hK.z b hz).2,(hZf b hz).2.1,(hZf b hz).2.2⟩
  have hrv:∀r,(∀c id,r=.cell id c->¬B id)->({ g1 with bv:=nb}:Gh).rv r=g.rv r:=by
   intro r hr;rw[<-hT.rv r];cases r with
   |tmp s c=>rfl|cell id c=>simp[Gh.rv,hnb.2 id (hr c id rfl)]
  have hDL:∀p c b,D p c b->EZ (F.ext Z w') S1 { g1 with bv:=nb} b:=by
   intro p c b hd';have hz:=hK.dz p c b hd';have hL:EZ F S1 g1 b:=hSp b (hK.df p c b hd');exact⟨λhk=>hk.elim hL.1 hz,hL.2.1,hL.2.2⟩
  unfold post at hpost;split at hpost
  .rename_i S3 hback;obtain⟨g3,h4,hC⟩:=AIF (F:=F.ext Z w') (S0:=S) hK.dd (E4 f) es outs 0 S1 S3 _ h3 hback hK.outs (by
    intro k md e L X;rw[Ar];obtain⟨hb1,hb2⟩:=hB k md e L X;cases md with
    |b=>
     obtain⟨id,ls,q1,q2,q3,q4,q5,q6,q7⟩:=hb1;exact⟨id,ls,q1,q2,λb H=>H.imp (λH=>by rw[q3]at H;exact H) (λh=>h),by rw[q6];simp[hT.β],q7⟩
    |m=>
     obtain⟨q1,q2,q3⟩:=hb1;intro c l O;obtain⟨p1,z,p2,p3,p4,p5⟩:=q3 c l O;refine⟨z,p2,?_⟩;have hnoB:∀r,l.B8=some r->∀c id,r=.cell id c->¬B id:=by
      rintro r hr c' id rfl ⟨i,hm',he'⟩;have hne:k≠i:=by rintro rfl;rw[L]at hm';cases hm'
      have hsh:=(hclash k .m e L X rfl).2 i _ he' hne;have:=(Hj hsh (Au O) (l':=.bp id 0) (by simp)).2.2 id (by simp[names]);exact Ou this hr
     unfold R5 at p1;split at p1
     .trivial
     .rename_i r;obtain⟨x,u,k1,k2,k3⟩:=p3;have k3':z=u:=k3;exact⟨p4 r none rfl,by rw[hrv r (hnoB r rfl),k2,k3']⟩
     .rename_i r q e' xs';obtain⟨i',j'⟩:=q;obtain⟨hal,_,e0,rows,blk,off,len,cap,k1,k2,k3,k4,k5⟩:=p3;have hal1:=p5 r (i',j') e' xs' rfl;obtain⟨x1,hx1⟩:=hal1;obtain⟨x0,hx0,hlk⟩:=hT.ADt r x1 hx1;rw[k1]at hx0;cases hx0;obtain⟨u1,hu1,hO1⟩:=h1.C0 r _ hx1;rw[hT.rv r,k2]at hu1;cases hu1;have hfp:g1.fp r blk:=by
       have hO:Own w x1 (.slice (some ⟨blk,off,none⟩) len cap) (g1.fp r):=hO1;rcases hlk with rfl|⟨e2,l1,l2,hh1,rfl,_⟩
       .cases hO with|sc hh _ _=>exact hh.elim|sl c f p1 p2 p3 p4 p5 p6 p7 p8 p9 p10=>exact(p10 _).2 (.inl rfl)
       .cases hO with|sc hh _ _=>exact hh.elim|sl c f p1 p2 p3 p4 p5 p6 p7 p8 p9 p10=>exact(p10 _).2 (.inl rfl)
      have hblt:blk<w.heap.size:=Own.lt hO1 blk hfp;have hsame:=hK.frame blk hblt λi c J=>hGal J ⟨x1,hx1⟩ hfp
      have hrows:∀row∈rows,row.length=e0:=by
       obtain⟨u0,hu0,hO0⟩:=h.C0 r _ k1;have hO:Own w (.sl e0 rows) u0 (g.fp r):=hO0;cases hO with
       |sc hh _ _=>exact hh.elim|nl=>simp|sl c f p1 p2 p3=>exact p3
      refine⟨e0,rows.length,blk,off,len,cap,by rw[hrv r (hnoB r rfl)];exact k2,(JW hsame).trans k5,uC k3,PE k3 hrows,?_⟩;intro e1 rows1 hr1;obtain⟨x2,hx2,hlk2⟩:=hT.ADt r _ hr1;rw[k1]at hx2;cases hx2;rcases hlk2 with hh|⟨e3,l1,l2,hh1,hh2,hh3⟩
      .cases hh;exact⟨rfl,rfl⟩
      .cases hh1;cases hh2;exact⟨rfl,hh3⟩
     .cases p1
    |_=>trivial) (by
    intro k e L X;exact(hB k .m e L X).1.2.1) (λk k' md e e' L X hw he' hne=>(hclash k md e L X hw).2 k' e' he' hne) (λp c b _ hd'=>hDL p c b hd')
   have hLD0:∀c b,D 0 c b->EZ (F.ext Z w') S3 g3 b:=by
    intro c b hd';refine(hDL 0 c b hd').oz hC ?_;rintro⟨p,c',hp,hd''⟩;exact hK.dd 0 c p c' b hd' (.inl (by omega)) hd''
   have hLe:F.Le (F.ext Z w'):=⟨Z,w',rfl,λb H=>((hK.frame b (BY (h.rlt b H) h.size) λi c J=>hGK J H).trans (h.FD b H)),h.still.trans hK.still,λb hz=>(hZf b hz).1⟩;have hfr:∀b,b<w.heap.size->¬pR S g (E4 f) es b->w'.heap[b]?=w.heap[b]?:=λb H hn=>hK.frame b H λi c J=>hn (hGC i c b J)
   have hlab:∀{k lab b},mV f S es k=some lab->R k b\/Z b->(F.ext Z w').R lab b:=by
    intro k lab b O H;unfold mV at O;split at O
    .rename_i e X;split at O
     .cases O
     .rename_i hnp;refine H.imp (λH=>?_) id;have hk:k<(E4 f).length:=by rw[<-hel];exact(AP.1 X).1
      refine(hB k (E4 f)[k] e (by simp[hk]) X).2 ?_ lab O b H;intro hp;exact hnp (by simp[hk,hp])
    .cases O
   have owned:S3.EY d (Aam sh cs)=some S2->(∃us,v=mkV sh us/\ze w' (D 0) cs us)->∃v' F' g',Ending.returned v=.returned v'/\F.Le F'/\Inv F' S2 g' (a.put (some d) v') w'/\∀b,b<w.heap.size->¬pR S g (E4 f) es b->w'.heap[b]?=w.heap[b]?:=by
    rintro hp ⟨us',rfl,ho1,ho2⟩;have hcl':Cells (F.ext Z w') S3 g3 w' (cs.map KR) us' (D 0):=by
     refine⟨by simpa using ho1,?_,?_⟩
     .intro c l O;rw[A0,AO]at O;obtain⟨x,hx,rfl⟩:=O;obtain⟨z,hz,hO⟩:=ho2 c x hx;exact⟨z,hz,mZ hO⟩
     .intro c x hx;refine⟨λb H=>(hLD0 c b H).1,λr hr b H=>(hLD0 c b H).2.1 r hr,λid hid H=>(hLD0 c _ H).2.2 id hid rfl,λc' x' _ hne b H=>hK.dd 0 c 0 c' b H (.inr hne)⟩
    obtain⟨g',J⟩:=h4.EY hp hd hcl';exact⟨_,_,g',rfl,hLe,J,hfr⟩
   have Y:=hK.res;cases sh with
   |one=>exact owned hpost Y|agg=>exact owned hpost Y|tup ns=>exact owned hpost Y|ptr k=>
    simp only at hpost;split at hpost
    .rename_i lab O;obtain⟨blk,us',E,rfl,q2,q3,q4,q5,q6⟩:=Y;have hLb:EZ (F.ext Z w') S3 g3 blk:=by
      have h0:EZ (F.ext Z w') S1 { g1 with bv:=nb} blk:=by
       have:=hSp blk q4;exact⟨λhk=>hk.elim this.1 q5,this.2.1,this.2.2⟩
      refine h0.oz hC ?_;rintro⟨p,c',hp,hd''⟩;exact q6 p c' hd''
     obtain⟨g',J⟩:=h4.AaH hd hpost q2 ⟨q3.1,λc x hx=>let ⟨z,hz,hV⟩:=q3.2 c x hx;⟨z,hz,hV.up λb H=>hlab O H⟩⟩ hLb;exact⟨_,_,g',rfl,hLe,J,hfr⟩
    .cases hpost
   |vw k=>
    simp only at hpost;split at hpost
    .rename_i lab O;obtain⟨x,rfl,hV⟩:=Y;obtain⟨g',J⟩:=Qy h4 hd (by simpa using hpost) (λy=>Tl) (Qi (hV.up λb H=>hlab O H));exact⟨_,_,g',rfl,hLe,J,hfr⟩
    .cases hpost
  .cases hpost
end
section
variable{F:Fix}{S S':St}{g g':Gh}{a a':Act}{w w':World}
theorem Inv.Aa5(h:Inv F S g a w){r:CL}{L:AS}{v:Value}(hr:S.at r=some (.t .top))(hv:g.rv r=some v)(hn:∀x,L≠.ow x)(hL:B1 F S g w (g.fp r) L v):Inv F (S.Bi r L) g a w:=by
 have B:∀q,(S.Bi r L).at q=if q=r then some L else S.at q:=λq=>E5 hr _ q
 have hdead:¬CP S r:=by rintro⟨y,E⟩;rw[hr]at E;cases E
 have e:∀q,CP (S.Bi r L) q->CP S q:=by
  rintro q ⟨y,E⟩;rw[B]at E;split at E
  .exact(hn _ (Option.some.inj E)).elim
  .exact⟨y,E⟩
 have hsome:∀id,(get (S.Bi r L).bx id).isSome=(get S.bx id).isSome:=λid=>Dv
 have O:∀q l u,B1 F S g w (g.fp q) l u->B1 F (S.Bi r L) g w (g.fp q) l u:=by
  intro q l u j;refine j.tr ?_ (λ_ _=>rfl) (λ_ _=>rfl) (λ_ _=>rfl);intro G Y;have J:G≠r:=by rintro rfl;exact hdead (j.alive Y)
  exact⟨by rw[B,AT J],rfl,λ_ hb=>hb,λ_ _=>rfl⟩
 refine { C0:=?_,tms:=?_,bxs:=?_,dis:=λG r2 c H=>h.dis G r2 (e _ c) (e _ H),Fh:=λG id c hid=>h.Fh G id (e _ c) (by rwa[<-hsome]),HM:=λG c=>h.HM G (e _ c),Gr:=λid Z c H=>h.Gr id Z (by rwa[<-hsome]) (by rwa[<-hsome]),bxR:=λid c=>h.bxR id (by rwa[<-hsome]),FD:=h.FD,rlt:=h.rlt,still:=h.still,defs:=h.defs,tsz:=h.tsz,pin:=?_}
 .intro q l I;rw[B]at I;split at I
  .rename_i X;subst X;cases I;exact⟨v,hv,O _ _ _ hL⟩
  .obtain⟨u,hu,j⟩:=h.C0 q l I;exact⟨u,hu,O _ _ _ j⟩
 .intro s e' he;obtain⟨e0,c,H,h3⟩:=MX he;obtain⟨p1,p2,p3⟩:=h.tms s e0 c;exact⟨p1,by rw[p2,H],by rw[p3,h3]⟩
 .intro id ls' I;obtain⟨l0,c,H⟩:=JV I;obtain⟨p1,p2⟩:=h.bxs id l0 c;exact⟨p1,by rw[p2,H]⟩
 .intro p hp;rw[HZ]at hp;obtain⟨p1,p2⟩:=h.pin p hp;exact⟨p1,λhs=>p2 (by rwa[<-hsome])⟩
theorem Inv.Aa4(h:Inv F S g a w){r r':CL}{x:T}{v:Value}(e:S.at r=some (.t .top))(j:g.rv r=some v)(q:S.at r'=some (.ow x))(c:g.rv r'=some v) :
 Inv F (S.Bi r (.al r' none)) g a w:=h.Aa5 e j (by simp) ⟨x,v,q,c,rfl⟩
theorem AXf(h:Inv F S g a w) r :∃g',Inv F (S.turn r) g' a w:=by
 unfold St.turn;split
 case h_2=>exact⟨g,h⟩
 rename_i r' J;split
 case h_2=>exact⟨g,h⟩
 rename_i x c;obtain⟨v,O,y,u,q1,X,L⟩:=h.C0 r _ J;have L:v=u:=L;subst L;obtain⟨v',j,hO⟩:=h.C0 r' _ c;rw[X]at j;cases j;have hO:Own w x v (g.fp r'):=hO;have Z:=h.out c;have e:r≠r':=by rintro rfl;rw[J]at c;cases c
 have H:(S.out r').at r=some (.t .top):=by
  rw[St.out,Hw,E5 c,AT e,J];simp[MK,AS.B8]
 have I:(S.out r').at r'=some (.t .top):=YX c;have hL:∀b,g.fp r' b->EZ F (S.out r') g b:=by
  intro b B;refine⟨h.HM r' ⟨x,c⟩ b B,λq hq G=>?_,λid E he=>?_⟩
  .obtain⟨n1,Y⟩:=Ix c hq;exact h.dis q r' Y ⟨x,c⟩ n1 b G B
  .exact h.Fh r' id ⟨x,c⟩ (V5 E) (he▸B)
 obtain⟨h2,hC⟩:=Z.ADR H O hO hL;refine⟨_,h2.Aa4 (r:=r') (r':=r) (x:=x) (v:=v) ?_ (by rw[hC.rv];exact X) ?_ (by rw[hC.rv];exact O)⟩
 .rw[E5 H,AT (Ne.symm e)];exact I
 .rw[E5 H,AW rfl]
theorem AXe(h:Inv F S g a w) r  e :∃g',Inv F (S.ae r e) g' a w:=by
 unfold St.ae;split
 .exact AXf h r
 split
 case h_2=>exact⟨g,h⟩
 rename_i hx;have X:=E5 hx (S.nl0 r e);have hdead:¬CP S r:=by rintro⟨x,G⟩;rw[hx]at G;cases G
 let g':Gh:={ g with fp:=λr'=>if r'=r then λ_=>False else g.fp r'}
 have j:g'.fp r=λ_=>False:=by simp[g']
 have c:∀r',r'≠r->g'.fp r'=g.fp r':=λr' E=>by simp[g',E]
 have H:∀r',CP (S.Bi r (S.nl0 r e)) r'->r'=r\/(r'≠r/\CP S r'):=by
  rintro r' ⟨x,G⟩;by_cases hr:r'=r
  .exact .inl hr
  .rw[X,AT hr]at G;exact .inr ⟨hr,x,G⟩
 refine⟨g',{ C0:=?_,tms:=?_,bxs:=?_,dis:=?_,Fh:=?_,HM:=?_,Gr:=?_,bxR:=?_,FD:=h.FD,rlt:=h.rlt,still:=h.still,defs:=h.defs,tsz:=h.tsz,pin:=?_}⟩
 .intro r' l Y;rw[X]at Y;split at Y
  .subst_vars
   cases Y;obtain⟨v,hv,J⟩:=h.C0 _ _ hx;have hv0:v=.slice none 0 0:=J;subst hv0;refine⟨_,hv,?_⟩;rw[j];unfold St.nl0;split
   .split
    .exact View.nl
    .exact Own.nl (by simp)
   .exact Own.nl (by simp)
  .rename_i E;obtain⟨v,hv,J⟩:=h.C0 r' l Y;refine⟨v,hv,?_⟩;rw[c r' E];refine J.tr ?_ (λ_ _=>rfl) (λ_ _=>rfl) (λ_ _=>rfl);intro y hr1;have L:y≠r:=by rintro rfl;exact hdead (J.alive hr1)
   exact⟨by rw[X,AT L],rfl,λb q=>by rw[c y L];exact q,λ_ _=>rfl⟩
 .intro s e' he;obtain⟨e0,B,O,h3⟩:=MX he;obtain⟨p1,p2,p3⟩:=h.tms s e0 B;exact⟨p1,by rw[p2,O],by rw[p3,h3]⟩
 .intro id ls' Y;obtain⟨l0,B,O⟩:=JV Y;obtain⟨p1,p2⟩:=h.bxs id l0 B;exact⟨p1,by rw[p2,O]⟩
 .intro y r2 B O E b q I;rcases H y B with rfl|⟨n1,Z⟩
  .rw[j]at q;exact q
  .rcases H r2 O with rfl|⟨n2,a2⟩
   .rw[j]at I;exact I
   .rw[c y n1]at q;rw[c r2 n2]at I;exact h.dis y r2 Z a2 E b q I
 .intro y id B hid q;rcases H y B with rfl|⟨n1,Z⟩
  .rw[j]at q;exact q
  .rw[c y n1]at q;exact h.Fh y id Z (by rwa[Dv]at hid) q
 .intro y B b q;rcases H y B with rfl|⟨n1,Z⟩
  .rw[j]at q;exact q.elim
  .rw[c y n1]at q;exact h.HM y Z b q
 .intro id id' B O;exact h.Gr id id' (by rwa[Dv]at B) (by rwa[Dv]at O)
 .intro id B;exact h.bxR id (by rwa[Dv]at B)
 .intro p hp;rw[HZ]at hp;obtain⟨p1,p2⟩:=h.pin p hp;exact⟨p1,λhs=>p2 (by rwa[Dv]at hs)⟩
theorem ALQ(h:Inv F S g a w):∀ns:List (CL×Nat),∃g',Inv F (S.Rv ns) g' a w:=by
 intro ns
 induction ns generalizing S g with
 |nil=>exact⟨g,h⟩|cons x ns j=>
  obtain⟨r,e⟩:=x;obtain⟨g',c⟩:=AXe h r e;exact j c
end
def Oper.Qc(P:Program)(o:Oper)(a:Act)(w:World)(K:Act->World->Prop):Prop:=
 match (execOp a.eval o).run P w with
 |.ok (.value v) w'=>K (a.put o.dst v) w'|.ok .skip w'=>K (a.put o.dst undef) w'|.ok (.enter f args) w'=>Calls P f args w' λe w''=>∃v,e=.returned v/\K (a.put o.dst v) w''|_=>False
theorem Oper.Qc.wp{P}{Q}(h:Oper.Qc P o a w K):o.wp P a w K Q:=by
 unfold Oper.Qc at h;unfold Oper.wp;split at h
 .rename_i c;rw[c];exact h
 .rename_i c;rw[c];exact h
 .rename_i f args w' c;rw[c];exact h.mono λe y ⟨v,j,q⟩=>by subst j;exact q
 .exact h.elim
theorem Oper.Qc.mono{P}{K'}(h:Oper.Qc P o a w K)(c:∀a w,K a w->K' a w):Oper.Qc P o a w K':=by
 unfold Oper.Qc at h ⊢;split at h
 .exact c _ _ h
 .exact c _ _ h
 .exact h.mono λe q ⟨v,j,h⟩=>⟨v,j,c _ _ h⟩
 .exact h.elim
structure P9(A:Nat->Nat->List Md->Prop)(P:Program):Prop where
 there:∀n id ms,A n id ms->∃fn,P.funcs[n]?=some fn/\fn.body.isNone=false/\(fn.name == "runtime.NumGoroutine")=false
 ct:∀n id ms vs sh cs outs,A n id ms->U7 id vs sh cs outs->∀w R G U us,M6 A P w R G U ms vs us ->
  Calls P n us.toArray w λe w'=>∃v Z D,e=.returned v/\ot w w' R G U ms us sh cs outs v Z D
theorem Mt.there{A}{P}(hA:P9 A P){n}{f}(h:Mt A P n f):∃fn,P.funcs[n]?=some fn/\fn.body.isNone=false/\(fn.name == "runtime.NumGoroutine")=false:=by
 cases h with
 |NK h=>exact hA.there _ _ _ h|mk c e j q=>
  refine⟨_,c,by simp[e],?_⟩;cases f with
  |mk ms rs body=>
   grind[Zh]
  |NK=>simp[Zh]at j
section
variable{F:Fix}{S S' S1 S2:St}{g g' g1:Gh}{a a':Act}{w w':World}
theorem AHa{l}{v}(h:Fe F g w l v):B1 F S g w (λ_=>False) l v/\∀x,l≠.ow x:=by
 match l,h with
 |.t _,h=>exact⟨h,by simp⟩|.und,h=>exact⟨h,by simp⟩|.vw (.old _) _ _,h=>exact⟨h,by simp⟩|.vp (.old _) _,h=>exact⟨h,by simp⟩|.bp _ _,h=>exact⟨h,by simp⟩
theorem tE{P}{n:Nat}{fn}{args}(c:P.funcs[n]?=some fn)(e:fn.body.isNone=false)(h:(fn.name == "runtime.NumGoroutine")=false):(callFunc n args).run P w=.ok (.enter n args) w:=by
 have j:(program).run P w=.ok P w:=rfl
 grind[callFunc,Sem.run_bind,Result.andThen,Bool.false_eq_true,Sem.run_pure]
theorem AL7(hA:P9 F.A F.P)(h:Inv F S g a w){o:Oper}{x:XOp}{d:Nat}{f:CQ}{es:List Ent}(j:Oj F.P F.N o.dst o.op x=true)(hm:∀p∈EX o.op x,Mt F.A F.P p.1 p.2)(y:Fy x S=some (d,f,es)) :
 ∃(n:Nat) (us:List Value),(execOp a.eval o).run F.P w=.ok (.enter n us.toArray) w/\Mt F.A F.P n f/\us.length=es.length/\(∀(i:Nat) e,es[i]?=some e->∃u,us[i]?=some u/\Rd F S g w e u)/\o.dst=some d/\d<F.N:=by
 obtain⟨dst,op,ty,pos,after,guard⟩:=o;dsimp only at j hm ⊢;simp only[Oj,AF]at j;obtain⟨G,j⟩:=j;cases x with
 |call Y f' args'=>
  simp only[Fy]at y;split at y
  .rename_i q H;simp only[AD,A6]at y;obtain⟨rfl,rfl,rfl⟩:=y;obtain⟨rfl,hd⟩:=DJ G rfl;split at j
   all_goals try (rename_i B;cases B;done)
   all_goals try (cases j;done)
   rename_i fn args ats d2 g2 args2 B;cases B;have Z:Mt F.A F.P fn f':=hm (fn,f') (by unfold EX;simp);obtain⟨fnd,k1,k2,k3⟩:=Mt.there hA Z;obtain⟨X,r2⟩:=AHh h H j (λp L=>hm p (by unfold EX;simp[L]));refine⟨fn,args.toList.map a.eval,?_,Z,by simp[X],?_,rfl,hd⟩
   .have O:=tE (w:=w) (args:=args.map a.eval) k1 k2 k3;have E:(args.toList.map a.eval).toArray=args.map a.eval:=B3.1 (by simp);rw[E];have hev:a.eval (.func fn)=.func (.func fn) #[] #[]:=rfl;simp only[execOp,resolve,hev,Deferred.ofValue,Am,Ay,Ao,invoke,Jr,Array.append_empty,O]
   .intro i e E;obtain⟨o',J,O⟩:=r2 i e E;exact⟨a.eval o',by simp[J],O⟩
  .cases y
 |ED Y x' ms args'=>
  simp only[Fy]at y;split at y
  .rename_i f' caps q hone H;split at y
   .rename_i hms;simp only[AD,A6]at y;obtain⟨rfl,rfl,rfl⟩:=y;obtain⟨rfl,hd⟩:=DJ G rfl;have key:∀(fo:Operand) (args:Array Operand) (ats:Array TypeId),op=.call { callee:=.value fo,args:=args,argTypes:=ats}->CH fo x'=true->Py args.toList args'=true->(∀p∈CI fo x'++E3 args.toList args',Mt F.A F.P p.1 p.2) ->
     ∃(n:Nat) (us:List Value),(execOp a.eval { dst:=some Y,op:=op,type:=ty,pos:=pos,after:=after,guard:=guard}).run F.P w=.ok (.enter n us.toArray) w/\Mt F.A F.P n f'/\us.length=(q++caps.map λl=>(⟨.one,[l]⟩:Ent)).length /\
      (∀(i:Nat) e,(q++caps.map λl=>(⟨.one,[l]⟩:Ent))[i]?=some e->∃u,us[i]?=some u/\Rd F S g w e u)/\some Y=some Y/\Y<F.N:=by
     rintro fo args ats rfl h1 h2 h3;obtain⟨⟨n,cv,q1,q2,q3,q4⟩,_⟩:=Gm h hone h1 (λp L=>h3 p (by simp[L]));obtain⟨fnd,k1,k2,k3⟩:=Mt.there hA q2;obtain⟨X,r2⟩:=AHh h H h2 (λp L=>h3 p (by simp[L]));refine⟨n,args.toList.map a.eval++cv.toList,?_,q2,by simp[X,q3],?_,rfl,hd⟩
     .have O:=tE (w:=w) (args:=args.map a.eval++cv) k1 k2 k3;have E:(args.toList.map a.eval++cv.toList).toArray=args.map a.eval++cv:=B3.1 (by simp);rw[E];simp only[execOp,resolve,q1,Deferred.ofValue,Am,Ay,Ao,invoke,Jr,O]
     .intro i e E;by_cases hi:i<q.length
      .rw[BN hi]at E;obtain⟨o',J,O⟩:=r2 i e E;exact⟨a.eval o',by rw[BN (by simpa[<-X] using hi)];simp[J],O⟩
      .rw[BH (by omega),A0,AO]at E;obtain⟨l,hl,rfl⟩:=E;have hlt:i-q.length<caps.length:=(AP.1 hl).1;have y:cv[i-q.length]?=some cv[i-q.length]:=by simp[q3,hlt]
       obtain⟨p1,p2⟩:=AHa (q4 _ l _ hl y);refine⟨cv[i-q.length],?_,[cv[i-q.length]],rfl,rfl,?_,?_⟩
       .rw[BH (by simp[<-X];omega)];simp only[Ac,Bg,DL];have:args.size=q.length:=by rw[X];simp
        rw[this];exact y
       .intro x hx;simp only[D5]at hx;exact p2 x hx.symm
       .intro c l' I;cases c with|zero=>simp only[AN,AD]at I;subst I;exact⟨_,rfl,p1⟩|succ c=>simp at I
    split at j
    all_goals try (rename_i B;cases B;done)
    all_goals try (cases j;done)
    rename_i fo args ats d2 f2 ms2 args2 B;cases B;simp only[AF]at j;refine key fo args ats rfl j.1 j.2 (λp L=>hm p ?_);cases fo<;>exact L
   .cases y
  .cases y
 |_=>simp[Fy]at y
def AOp(S:St)(g:Gh)(x:XOp)(b:Nat):Prop:=
 match Fy x S with
 |some (_,f,es)=>pR S g (E4 f) es b|none=>Tch S g x b
def AYH(F:Fix)(S:St)(g:Gh)(w:World)(x:XOp)(K:St->Prop)(a':Act)(w':World):Prop:=
 ∃F' S' g',F.Le F'/\Inv F' S' g' a' w'/\K S'/\∀b,b<w.heap.size->¬AOp S g x b->w'.heap[b]?=w.heap[b]?
theorem AUH{Rn}(hA:P9 F.A F.P)(hRn:∀f vs sh cs outs,Rn f vs sh cs outs->Ct F.A F.P f vs sh cs outs)(h:Inv F S g a w){o}{x}{K}(B:Oj F.P F.N o.dst o.op x=true)(Z:∀p∈EX o.op x,Mt F.A F.P p.1 p.2)
(hk:opK Rn x S K):Oper.Qc F.P o a w (AYH F S g w x K):=by
 rcases hk with ⟨S',j,hK⟩|⟨d,f,es,S1,vs,sh,cs,outs,S2,Y,E,H,hpost,hK⟩
 .obtain⟨n,v,w',g',X,h2,h3,h4⟩:=(AD9 h B Z j).eff;have L:Fy x S=none:=by
   cases x<;>first|rfl|(simp[ev]at j)
  have hw:AYH F S g w x K (a.put o.dst v) w':=⟨F,S',g',.refl,h3,hK,by simpa only[AOp,L] using h4⟩;unfold Oper.Qc
  grind
 .obtain⟨n,us,X,J,y,O,c,hd⟩:=AL7 hA h B Z Y;have:=AWt h hd O y E hpost (λR G U hargs=>hRn _ _ _ _ _ H n J w R G U us hargs);unfold Oper.Qc;rw[X];refine this.mono ?_;rintro e w' ⟨v,F',g',rfl,hLe,q,I⟩;refine⟨v,rfl,F',S2,g',hLe,by rw[c];exact q,hK,?_⟩;simpa only[AOp,Y] using I
theorem nC{Rn}{F0:Fix}(hA:P9 F0.A F0.P)(hRn:∀f vs sh cs outs,Rn f vs sh cs outs->Ct F0.A F0.P f vs sh cs outs){ops}{K}:∀(xs:List (Option (Nat×Bool)×XOp)) (os:List Oper) (F:Fix) (S:St) (g:Gh) (a:Act) (w:World),
 F0.Le F->Inv F S g a w->Mw F0.P F0.N ops os xs=true->(∀p∈ML os xs,Mt F0.A F0.P p.1 p.2)->ai Rn xs S K ->
 wpList F0.P ops (λex a' w'=>ex=.normal/\∃F' S' g',F0.Le F'/\Inv F' S' g' a' w'/\K S') os a w
 | [],os,F,S,g,a,w,hL0,h,j,H,c=>by
  cases os with
  |nil=>exact⟨rfl,F,S,g,hL0,h,c⟩|cons=>simp[Mw]at j
 |(gd,x)::xs,os,F,S,g,a,w,hL0,h,j,H,c=>by
  obtain⟨hP,hFA,hN,_,_⟩:=hL0.P;rw[<-hP,<-hFA]at hA hRn;rw[<-hP,<-hN]at j;rw[<-hP,<-hFA]at H;rw[<-hP];by_cases hdrop:∃O,x=.drop O
  .obtain⟨O,rfl⟩:=hdrop;have e:gd.isNone=true/\Mw F.P F.N ops os xs=true:=by
    cases os<;>simpa[Mw] using j
   have G:gd=none:=by simpa using e.1
   subst G;obtain⟨b,y,c⟩:=c;simp only[wanted,AD]at y;subst y;rcases c with ⟨_,c⟩|⟨y,_⟩
   .rcases c with ⟨S',B,c⟩|⟨d,f,es,S1,vs,sh,cs,outs,S2,X,_⟩
    .simp only[ev,AD]at B;subst B;have:=nC (F0:=F0) (by rw[<-hP,<-hFA];exact hA) (by rw[<-hP,<-hFA];exact hRn) xs os F _ g a w hL0 (ALN h O) (by rw[<-hP,<-hN];exact e.2) (by rw[<-hP,<-hFA];exact λp J=>H p (by cases os<;>simpa[ML] using J)) c;rw[<-hP]at this;exact this
    .simp[Fy]at X
   .cases y
  by_cases q:∃ns,x=.Qn ns
  .obtain⟨ns,rfl⟩:=q;have e:gd.isNone=true/\Mw F.P F.N ops os xs=true:=by
    cases os<;>simpa[Mw] using j
   have G:gd=none:=by simpa using e.1
   subst G;obtain⟨b,y,c⟩:=c;simp only[wanted,AD]at y;subst y;rcases c with ⟨_,c⟩|⟨y,_⟩
   .rcases c with ⟨S',B,c⟩|⟨d,f,es,S1,vs,sh,cs,outs,S2,X,_⟩
    .simp only[ev,AD]at B;subst B;obtain⟨g',Y⟩:=ALQ h ns;have:=nC (F0:=F0) (by rw[<-hP,<-hFA];exact hA) (by rw[<-hP,<-hFA];exact hRn) xs os F _ g' a w hL0 Y (by rw[<-hP,<-hN];exact e.2) (by rw[<-hP,<-hFA];exact λp J=>H p (by cases os<;>simpa[ML] using J)) c;rw[<-hP]at this;exact this
    .simp[Fy]at X
   .cases y
  .cases os with
   |nil=>cases x<;>first|(simp[Mw]at j;done)|exact absurd ⟨_,rfl⟩ hdrop|exact absurd ⟨_,rfl⟩ q
   |cons o os=>
    have e:(Nh ops o.guard gd=true/\Oj F.P F.N o.dst o.op x=true)/\Mw F.P F.N ops os xs=true:=by
     cases x<;>first|exact absurd ⟨_,rfl⟩ hdrop|exact absurd ⟨_,rfl⟩ q|simpa[Mw,AF] using j
    have I:(∀p∈EX o.op x,Mt F.A F.P p.1 p.2)/\∀p∈ML os xs,Mt F.A F.P p.1 p.2:=by
     have:ML (o::os) ((gd,x)::xs)=EX o.op x++ML os xs:=by
      cases x<;>first|exact absurd ⟨_,rfl⟩ hdrop|exact absurd ⟨_,rfl⟩ q|rfl
     rw[this]at H;exact⟨λp J=>H p (by simp[J]),λp J=>H p (by simp[J])⟩
    obtain⟨⟨hg,ho⟩,L⟩:=e;obtain⟨b,y,c⟩:=c;have hw:=Ux h hg y;simp only[wpList,hw];rcases c with ⟨rfl,c⟩|⟨rfl,S',hs,c⟩
    .simp only[if_true];left;refine Oper.Qc.wp ((AUH hA hRn h ho I.1 c).mono ?_);rintro a' w' ⟨F',S',g',hLe,E,Z,_⟩;have:=nC (F0:=F0) (by rw[<-hP,<-hFA];exact hA) (by rw[<-hP,<-hFA];exact hRn) xs os F' S' g' a' w' (hL0.trans hLe) E (by rw[<-hP,<-hN];exact L) (by rw[<-hP,<-hFA];exact I.2) Z;rw[<-hP]at this;exact this
    .simp only[BJ,if_false];obtain⟨g',E⟩:=yy h ho hs;have:=nC (F0:=F0) (by rw[<-hP,<-hFA];exact hA) (by rw[<-hP,<-hFA];exact hRn) xs os F S' g' _ w hL0 E (by rw[<-hP,<-hN];exact L) (by rw[<-hP,<-hFA];exact I.2) c;rw[<-hP]at this;exact this
theorem AP8(h:Inv F S g a w){fp}{l}{v}{b}(q:S.Oa l=true)(L:B1 F S g w fp l v)(y:K6 v=some b) :
 F.K b\/(∃r,l.B8=some r/\CP S r/\g.fp r b)\/∃id∈names l,(get S.bx id).isSome/\b=g.β id:=by
 have ofOwn:∀{x:T} {u:Value} {S0:Blk},aN x=false->Own w x u S0->K6 u=some b->S0 b:=by
  intro x u S0 B O y;cases O with
  |sc Z _ _=>
   cases x with
   |top=>cases B
   |un=>cases B
   |sl=>exact Z.elim|mp=>exact Z.elim|_=>have hs':u=_:=Z;subst hs';simp[K6]at y
  |nl=>simp[K6]at y|mp=>simp[K6]at y|sl c f E J G h4 h5 h6 h7 h8 h9 Y=>
   simp only[K6,AD]at y;subst y;exact(Y _).2 (.inl rfl)
 match l,L,q with
 |.bp id off,L,q=>
  have hv:v=_:=L;subst hv;simp only[K6,AD]at y;exact .inr (.inr ⟨id,by simp[names],q,y.symm⟩)
 |.ep r i j,⟨e,xs,blk,off,len,cap,E,J,G,h4⟩,_=>
  subst h4;simp only[K6,AD]at y;subst y;obtain⟨u,hu,O⟩:=h.C0 r _ E;rw[J]at hu;cases hu;exact .inr (.inl ⟨r,rfl,⟨_,E⟩,ofOwn rfl O rfl⟩)
 |.vp (.own r p) (c::cs),⟨I,ad,c0,f,E,J,G⟩,_=>
  subst E;simp only[K6,AD]at y;subst y;exact .inr (.inl ⟨r,rfl,I,(G 0 c rfl).1⟩)
 |.vp (.old k) (c::cs),⟨ad,c0,E,J,G⟩,_=>
  subst E;simp only[K6,AD]at y;subst y;exact .inl (F.RK k _ (G 0 c rfl).1)
 |.vp _ [],_,q=>simp[St.Oa]at q|.al r sub,⟨x,u,E,J,G⟩,q=>
  have B:aN x=false:=by simpa[St.Oa,E] using q
  obtain⟨u',X,O⟩:=h.C0 r _ E;rw[J]at X;cases X;have hO:Own w x u (g.fp r):=O;refine .inr (.inl ⟨r,rfl,⟨_,E⟩,?_⟩);cases sub with
  |none=>
   have H:v=u:=G;subst H;exact ofOwn B hO y
  |some p=>
   obtain⟨lo,n⟩:=p;cases x with
   |sl e xs=>
    obtain⟨blk,off,len,cap,off',cap',q1,q2,_⟩|⟨_,q2,_⟩:=G
    .subst q1 q2;simp only[K6,AD]at y;subst y;exact ofOwn rfl hO rfl
    .subst q2;simp[K6]at y
   |_=>
    obtain⟨H,_⟩:=G;subst H;exact ofOwn B hO y
 |.vw (.own r p) e xs,⟨I,⟨S0,hS0,hO⟩,_⟩,_=>exact .inr (.inl ⟨r,rfl,I,hS0 b (ofOwn rfl hO y)⟩)|.t .nil,L,_=>
  have hv:v=_:=L;subst hv;simp[K6]at y
 |.t (.int _ _),_,q=>simp[St.Oa]at q|.t (.bool _),_,q=>simp[St.Oa]at q|.t (.str _),_,q=>simp[St.Oa]at q|.t .np,_,q=>simp[St.Oa]at q|.t .top,_,q=>simp[St.Oa]at q|.t .un,_,q=>simp[St.Oa]at q|.t (.sl _ _),_,q=>simp[St.Oa]at q|.vw (.old _) _ _,_,q=>simp[St.Oa]at q|.und,_,q=>simp[St.Oa]at q|.ow _,_,q=>simp[St.Oa]at q|.fn _ _,_,q=>simp[St.Oa]at q
theorem ADx{l}{id}(h:id∈names l):GA id l=true:=by
 cases l<;>simp[names]at h
 .simp[GA,AS.Mg,h]
 grind[GA,List.any_eq_true,AS.Mg]
theorem eX{l}:∀{ms:List Md} {es:List Ent},Kg l ms es=true->∀(i:Nat) md e,ms[i]?=some md->es[i]?=some e->md.writes=true->∀l'∈e.cs,SA l' l=false
 | [],_,_,i,md,e,h,_,_=>by simp at h|_::_,[],_,_,_,_,_,h,_=>by simp at h|y::ms,B::es,h,i,md,e,j,c,q=>by
  simp only[Kg,AF,DA,CG,A8]at h;cases i with
  |zero=>
   grind[List.getElem?_cons_zero,Option.some.injEq]
  |succ i=>exact eX h.2 i md e (by simpa using j) (by simpa using c) q
theorem AHj(h:Inv F S g a w){y}{l}{r}(c:S.one y=some l)(e:l.B8=some r):CP S r:=by
 cases y with
 |tmp s=>exact(Gm h c (o:=.tmp s) (by simp[CH]) (by simp[CI])).1.alive e|k x=>
  simp only[St.one,St.rd]at c;cases c;cases x<;>cases e
 |fn f=>
  simp only[St.one,St.rd]at c;cases c;cases e
theorem AX0(h:Inv F S g a w){x:XOp}{s:Nat}{l:AS}{b:Nat}(hs:S.one (.tmp s)=some l)(hsafe:VP x S l=true)(hb:K6 (a.tmps.getD s undef)=some b):b<w.heap.size/\¬AOp S g x b:=by
 have hl:=(Gm h hs (o:=.tmp s) (by simp[CH]) (by simp[CI])).1;have hev:a.eval (.tmp s)=a.tmps.getD s undef:=by simp[Act.eval]
 rw[hev]at hl;simp only[VP,AF]at hsafe;obtain⟨hfirm,hsafe⟩:=hsafe;have hcases:=AP8 h hfirm hl hb;have flt:∀r,CP S r->g.fp r b->b<w.heap.size:=by
  rintro r ⟨y,hy⟩ O;obtain⟨u,_,ho⟩:=h.C0 r _ hy;exact Own.lt ho b O
 refine⟨?_,?_⟩
 .rcases hcases with Y|⟨r,_,c,O⟩|⟨id,_,G,rfl⟩
  .exact BY (h.rlt b Y) h.size
  .exact flt r c O
  .obtain⟨ls,hls⟩:=Br.1 G;obtain⟨⟨E,hE⟩,_⟩:=h.bxs id ls hls;exact(BB.1 hE).1
 .intro hT;unfold AOp at hT;have main:∀f es,(match x with|.st _ _ _=>False|_=>True)->Fy x S=some (0,f,es)\/True->Kg l (E4 f) es=true->pR S g (E4 f) es b->False:=by
   rintro f es _ _ Z ⟨i,md,e,hm,he,hw,hT⟩;have hsh:=eX Z i md e hm he hw;have off:∀l'∈e.cs,(∀r,l'.B8=some r->l.B8≠some r)/\∀id∈names l',GA id l=false:=by
    intro l' hl';have h1:=hsh l' hl';simp only[SA,FJ,List.any_eq_false,Bool.not_eq_true]at h1;refine⟨λr hr=>?_,h1.2⟩;have:=h1.1;rw[hr]at this;simpa using this
   rcases hT with ⟨id,rfl,G,rfl⟩|⟨l',r',hl',hr',L,hf'⟩
   .rcases hcases with Y|⟨r,_,c,O⟩|⟨q,B,H,he1⟩
    .exact h.bxR id G Y
    .exact h.Fh r id c G O
    .have:q=id:=h.Gr q id H G he1.symm;subst this;have:=(off (.bp q 0) (by simp)).2 q (by simp[names]);rw[ADx B]at this;cases this
   .rcases hcases with Y|⟨r,hr,c,O⟩|⟨q,B,H,rfl⟩
    .exact h.HM r' L b hf' Y
    .by_cases hrr:r'=r
     .subst hrr;exact(off l' hl').1 r' hr' hr
     .exact h.dis r' r L c hrr b hf' O
    .exact h.Fh r' q L H hf'
  split at hT
  .rename_i d f es hc;have Z:Kg l (E4 f) es=true:=by
    cases x<;>first|(simp[Fy]at hc;done)|(simpa only[hc] using hsafe)
   exact main f es (by cases x<;>first|trivial|(simp[Fy]at hc)) (.inr trivial) Z hT
  .rename_i hc;have key:∀y,x.wr=some y->(∃l r,S.one y=some l/\l.B8=some r/\g.fp r b)->(match S.one y with|some lt=>l.B8.isNone||decide (l.B8≠lt.B8)|none=>true)=true->False:=by
    rintro y hy ⟨lt,r,h1,h2,h3⟩ hh;rw[h1]at hh;simp only[DA,EV,decide_eq_true_eq]at hh;have c:=AHj h h1 h2;rcases hcases with Y|⟨r1,J,I,X⟩|⟨q,B,H,rfl⟩
    .exact h.HM r c b h3 Y
    .rcases hh with hh|hh
     .rw[hh]at J;cases J
     .have hne:r1≠r:=by rintro rfl;exact hh (J.trans h2.symm)
      exact h.dis r1 r I c hne b X h3
    .exact h.Fh r q c H h3
   have stc:∀n p v,x=.st n p v->False:=by
    rintro n p v rfl;simp only[Tch]at hT;obtain⟨lp,hlp,hT⟩:=hT;dsimp only at hsafe;rw[hlp]at hsafe;rcases hT with ⟨id,off,rfl,G,rfl⟩|⟨r,hr,c,O⟩
    .dsimp only at hsafe;rcases hcases with Y|⟨r1,J,I,X⟩|⟨q,B,H,he1⟩
     .exact h.bxR id G Y
     .exact h.Fh r1 id I G X
     .have:q=id:=h.Gr q id H G he1.symm;subst this;simp[B]at hsafe
    .cases lp with
     |ep r0 i j=>
      simp only[AS.B8,AD]at hr;subst hr;simp only[decide_eq_true_eq]at hsafe;rcases hcases with Y|⟨r1,J,I,X⟩|⟨q,B,H,rfl⟩
      .exact h.HM _ c b O Y
      .have hne:r1≠r0:=by rintro rfl;exact hsafe J
       exact h.dis r1 r0 I c hne b X O
      .exact h.Fh _ q c H O
     |_=>first|(simp[AS.B8]at hr;done)|(simp at hsafe;done)
   by_cases hst:∃n p v,x=.st n p v
   .obtain⟨n,p,v,hx⟩:=hst;exact stc n p v hx
   clear stc;cases x<;>first|exact hst ⟨_,_,_,rfl⟩|(simp only[Tch,XOp.wr]at hT<;>first|exact hT|(simp only[hc,XOp.wr]at hsafe;exact key _ rfl hT hsafe)|(simp at hsafe))
end
section
variable{P:Program}{ops:Array Oper}{Q:Exit->Act->World->Prop}
def P7(P:Program)(ops:Array Oper)(Q:Exit->Act->World->Prop)(L:List (Nat×Nat)):Nat->Array Bool->Act->World->Prop
 |0,listed,a,w=>Bk .any ops listed=[]/\Q .normal a w|fuel+1,listed,a,w=>
  (Bk .any ops listed=[]->Q .normal a w) /\
  ∀j∈Bk .any ops listed,wpOp P ops Q j (λa' w'=>(∀t∈L,SP ops ops.size j t.1=false->w'.heap[t.2]?=w.heap[t.2]?)/\P7 P ops Q L fuel (listed.setIfInBounds j true) a' w') a w
theorem og{L:List (Nat×Nat)}:∀(fuel:Nat) (listed:Array Bool) (a:Act) (w:World),P7 P ops Q L fuel listed a w->wpAny P .any ops Q fuel listed a w|0,_,_,_,h=>h|fuel+1,_,_,_,h=>⟨h.1,λi hi=>wpOp_mono (λa' w' c=>og fuel _ a' w' c.2) (h.2 i hi)⟩
def O8(ops:Array Oper)(listed:Array Bool):Prop:=∀(j:Nat) oj,ops[j]?=some oj->listed.getD j true=true->∀e∈oj.after,EP .any e=true->listed.getD e.on false=true
theorem Vp{listed:Array Bool}{j}(h:listed.getD j false=true):listed.getD j true=true:=by
 grind[Nat.lt_or_ge,Array.getElem?_eq_none]
theorem O8.set{listed}{i}(B:O8 ops listed)(hi:i∈Bk .any ops listed):O8 ops (listed.setIfInBounds i true):=by
 obtain⟨I,oi,H,h⟩:=mem_ready.1 hi;intro j oj G q e E y;by_cases c:i=j
 .grind[getD_set_true]
 .rw[getD_set_ne true c]at q;exact getD_set_true (B j oj G q e E y)
theorem rm{b}:∀(l:List Edge) (m:Nat),(l.foldl (λm e=>if EP .any e=true then m |||2 ^ e.on else m) m).testBit b=true->m.testBit b=true\/∃e∈l,EP .any e=true/\e.on=b
 | [],m,h=>.inl h|e::l,m,h=>by
  rw[Bw]at h;rcases rm l _ h with c|⟨j,c,q⟩
  .grind[List.mem_cons_self]
  grind[List.mem_cons_of_mem]
theorem ri{j b}(h:(ADK ops j).testBit b=true):∃o,ops[j]?=some o/\∃e∈o.after,EP .any e=true/\e.on=b:=by
 unfold ADK at h;split at h
 .rename_i o y;rcases rm _ _ h with c|⟨e,c,q⟩
  .simp at c
  grind
 .simp at h
theorem eV{listed}(j:O8 ops listed):∀(n m:Nat),(∀b,m.testBit b=true->listed.getD b false=true)->∀b,(AOx ops n m).testBit b=true->listed.getD b false=true
 |0,m,h,b,c=>h b c|k+1,m,h,b,c=>by
  unfold AOx at c;split at c
  .rename_i B;refine eV j k _ (λb c=>?_) b c;rw[Nat.testBit_or,DA]at c;rcases c with c|c
   .exact h b c
   .obtain⟨o,E,e,y,q,rfl⟩:=ri c;exact j k o E (Vp (h k B)) e y q
  .exact eV j k m h b c
theorem AOl{listed}(y:O8 ops listed){i}(hi:listed.getD i true=false) n j(h:∀oj,ops[j]?=some oj->∀e∈oj.after,EP .any e=true->listed.getD e.on false=true):SP ops n j i=false:=by
 rw[Bool.eq_false_iff];intro G;have:=eV y n (ADK ops j) (λb q=>by obtain⟨o,E,e,B,c,rfl⟩:=ri q;exact h o E e B c) i G
 grind[Vp]
theorem N0{L:List (Nat×Nat)}{i b:Nat}{oi:Oper}{v:Value}(hi:ops[i]?=some oi)(J:∀(j:Nat) (o:Oper) cs c,ops[j]?=some o->o.op≠.select cs c)
 (hQ:∀c a w,Q (.panic c) (a.put oi.dst v) w->Q (.panic c) a w) {ob:Option Obj} (rd:Bool) :
 ∀(fuel:Nat) (listed:Array Bool) (a:Act) (w:World),O8 ops listed ->
  (∀j oj,ops[j]?=some oj->j≠i->listed.getD j true=false->(∀e∈oj.after,EP .any e=true->e.on≠i)->oi.apart ops oj=true) ->
  i∈Bk .any ops listed->YieldsIf P ops (λw=>rd=true->w.heap[b]?=ob) oi v a->(rd=true->w.heap[b]?=ob) ->
  P7 P ops Q (if rd=true then (i,b)::L else L) fuel (listed.setIfInBounds i true) (a.put oi.dst v) w->P7 P ops Q L (fuel+1) listed a w:=by
 intro fuel
 induction fuel with
 |zero=>
  intro listed a w X _ Y hy hS H;refine⟨λh=>(by rw[h]at Y;cases Y),λj Z=>?_⟩;by_cases q:j=i
  .subst q;exact hy.wpOp hi hS ⟨λ_ _ _=>rfl,H⟩
  .have:=ready_mono Z q;rw[H.1]at this;cases this
 |succ fuel ih=>
  intro listed a w X hfree Y hy hS H;have O:∀t∈L,t∈(if rd=true then (i,b)::L else L):=by intro t ht;split<;>simp[ht]
  refine⟨λh=>(by rw[h]at Y;cases Y),λj Z=>?_⟩;by_cases q:j=i
  .subst q;refine hy.wpOp hi hS ⟨λ_ _ _=>rfl,?_⟩;have mono:∀(f:Nat) (li:Array Bool) (a:Act) (w:World),P7 P ops Q (if rd=true then (j,b)::L else L) f li a w->P7 P ops Q L f li a w:=by
    intro f
    induction f with
    |zero=>intro li a w h;exact h
    |succ f ihf=>intro li a w h;exact⟨h.1,λk hk=>wpOp_mono (λa' w' h'=>⟨λt ht=>h'.1 t (O t ht),ihf _ _ _ h'.2⟩) (h.2 k hk)⟩
   exact mono _ _ _ _ H
  .have h1:=H.2 j (ready_mono Z q);obtain⟨G,oj,y,B⟩:=mem_ready.1 Z;have E:=(mem_ready.1 Y).1;have hnot:∀e∈oj.after,EP .any e=true->e.on≠i:=λe he hb heq=>by
    have h1:=B e he hb;have h2:=Vp h1;rw[heq,E]at h2;cases h2
   have hwait:SP ops ops.size j i=false:=AOl X E _ j λoj' I e he hb=>by
    rw[y]at I;cases I;exact B e he hb
   have h2:=wpOp_putIf y (hfree j oj y q G hnot) (λcs b=>J i oi cs b hi) (λcs b=>J j oj cs b y) hQ hy h1;have hfree':∀k ok,ops[k]?=some ok->k≠i->(listed.setIfInBounds j true).getD k true=false ->
    (∀e∈ok.after,EP .any e=true->e.on≠i)->oi.apart ops ok=true:=λk ok hk hki hun hno=>by
    refine hfree k ok hk hki ?_ hno;by_cases hjk:j=k
    .subst hjk;exact G
    .rw[getD_set_ne true hjk]at hun;exact hun
   refine wpOp_mono (λa' w' h3=>⟨λt ht=>h3.2.1 t (O t ht),ih (listed.setIfInBounds j true) a' w' (X.set Z) hfree' (ready_mono Y (Ne.symm q)) h3.1 ?_ ?_⟩) h2
   .intro hrd;rw[h3.2.1 (i,b) (by simp[hrd]) hwait];exact hS hrd
   .rw[Array.setIfInBounds_comm _ _ q];exact h3.2.2
end
theorem Oper.Qc.put{P}(h:Oper.Qc P o a w K):Oper.Qc P o a w (λa' w'=>(∃v,a'=a.put o.dst v)/\K a' w'):=by
 grind[Oper.Qc]
section
variable{F:Fix}{S S' S1 S2:St}{g g' g1:Gh}{a a':Act}{w w':World}
theorem Om{a:Act}{dst:Option Tmp}{v}{s:Nat}(h:dst≠some s):(a.put dst v).tmps.getD s undef=a.tmps.getD s undef:=by
 cases dst with
 |none=>rfl|some d=>
  have c:d≠s:=λe=>h (e▸rfl)
  simp[Act.put,Array.getElem?_setIfInBounds_ne c]
theorem AZx{Rn}{x}{K}(h:NH x≠.eff)(c:opK Rn x S K):∃S',ev x S=some S'/\K S':=by
 rcases c with c|⟨d,f,es,S1,vs,sh,cs,outs,S2,e,_⟩
 .exact c
 .cases x<;>first|(simp[Fy]at e;done)|exact absurd rfl h
theorem AZU{N s}{dst}{op}{x}{y}{P}(c:Oj P N dst op x=true)(e:Tj x=some s)(j:AV3 op=some y):y=.tmp s:=by
 simp only[Oj,AF]at c;obtain⟨_,c⟩:=c;have tm:∀{o:Operand} {t:Nat},CH o (.tmp t)=true->o=.tmp t:=by
  intro o t h;cases o<;>simp[CH]at h;rw[h]
 unfold Tj at e
 grind[AV3]
theorem N6:∀{r:Se},I3 r=0->PS r=[]
 |.nil,_=>rfl|.op _ _ _ _ _,h=>by simp[I3]at h|.dr _ r,h=>by simp only[I3]at h;simp[PS,N6 h]|.nl _ r,h=>by simp only[I3]at h;simp[PS,N6 h]|.both a b,h=>by
  simp only[I3]at h;simp[PS,N6 (r:=a) (by omega),N6 (r:=b) (by omega)]
theorem tF{x}:∀{sf:List Nat},KT x S sf=true->∀s∈sf,∃l,S.one (.tmp s)=some l/\VP x S l=true
 | [],_,s,c=>by simp at c|t::ts,h,s,c=>by
  simp only[KT,AF]at h;rcases Ae.1 c with rfl|c
  .grind
  .exact tF h.2 s c
def Fin(F0:Fix)(K:St->Prop)(ex:Exit)(a':Act)(w':World):Prop:=ex=.normal/\∃F' S' g',F0.Le F'/\Inv F' S' g' a' w'/\K S'
theorem AFD{P:Program}{ops:Array Oper}{Q:Exit->Act->World->Prop}{L:List (Nat×Nat)}{listed:Array Bool}{a:Act}{w:World}(c:Bk .any ops listed=[])(h:Q .normal a w):∀fuel,P7 P ops Q L fuel listed a w|0=>⟨c,h⟩|_+1=>⟨λ_=>h,by rw[c];simp⟩
theorem Ov{Rn}{F0}(hA:P9 F0.A F0.P)(hRn:∀f vs sh cs outs,Rn f vs sh cs outs->Ct F0.A F0.P f vs sh cs outs){ops}(B:Region.noSelect ops=true){K} :
 ∀(r:Se) (listed:Array Bool) (Ls L:List (Nat×Nat)) (F:Fix) (S:St) (g:Gh) (a:Act) (w:World),F0.Le F->Inv F S g a w->(∀p∈NN ops r,Mt F0.A F0.P p.1 p.2)->O8 ops listed ->
  (∀t∈L,∃s,(t.1,s)∈Ls/\K6 (a.tmps.getD s undef)=some t.2)->runK Rn r S K ->
  (Iu F0.P F0.N ops true r listed Ls=true->∀fuel,I3 r<=fuel->P7 F0.P ops (Fin F0 K) L fuel listed a w) /\
  (Iu F0.P F0.N ops false r listed Ls=true->∀fuel,I3 r<=fuel+1->∀j∈PS r,j∈Bk .any ops listed ->
   wpOp F0.P ops (Fin F0 K) j (λa' w'=>(∀t∈L,SP ops ops.size j t.1=false->w'.heap[t.2]?=w.heap[t.2]?)/\P7 F0.P ops (Fin F0 K) L fuel (listed.setIfInBounds j true) a' w') a w)
 |.nil,listed,Ls,L,F,S,g,a,w,hLe,h,_,_,_,J=>by
  refine⟨λq fuel _=>AFD (by simpa[Iu] using q) ⟨rfl,F,S,g,hLe,h,J⟩ fuel,λq=>by simp[Iu]at q⟩
 |.dr ds r,listed,Ls,L,F,S,g,a,w,hLe,h,hm,G,hL,J=>
  Ov hA hRn B r listed Ls L F (S.Ir ds) g a w hLe (ALN h ds) hm G hL J
 |.nl ns r,listed,Ls,L,F,S,g,a,w,hLe,h,hm,G,hL,J=>by
  obtain⟨g',hg⟩:=ALQ h ns;exact Ov hA hRn B r listed Ls L F (S.Rv ns) g' a w hLe hg hm G hL J
 |.both r1 r2,listed,Ls,L,F,S,g,a,w,hLe,h,hm,G,hL,J=>by
  obtain⟨hk1,hk2⟩:=J;have i1:=Ov hA hRn B r1 listed Ls L F S g a w hLe h (λp hp=>hm p (by simp[NN,hp])) G hL hk1;have i2:=Ov hA hRn B r2 listed Ls L F S g a w hLe h (λp hp=>hm p (by simp[NN,hp])) G hL hk2;constructor
  .intro q fuel hf;simp only[Iu,Bool.not_true,Bool.false_or,AF,A8,List.isEmpty_eq_false_iff,CG,Ez]at q;obtain⟨⟨⟨hne,hcov⟩,ho1⟩,ho2⟩:=q;simp only[I3]at hf;cases fuel with
   |zero=>
    exfalso;have e1:=N6 (r:=r1) (by omega);have e2:=N6 (r:=r2) (by omega);obtain⟨j,hj⟩:=List.exists_mem_of_ne_nil _ hne;have:=hcov j hj;simp[e1,e2]at this
   |succ fuel=>
    refine⟨λh0=>absurd h0 hne,λj hj=>?_⟩;rcases Bs.1 (hcov j hj) with hj1|hj1
    .exact i1.2 ho1 fuel (by omega) j hj1 hj
    .exact i2.2 ho2 fuel (by omega) j hj1 hj
  .intro q fuel hf j hj hjr;simp only[Iu,Bool.not_false,Bool.true_or,Bool.true_and,AF]at q;simp only[I3]at hf;rcases Bs.1 hj with hj1|hj1
   .exact i1.2 q.1 fuel (by omega) j hj1 hjr
   .exact i2.2 q.2 fuel (by omega) j hj1 hjr
 |.op i gd sf x r,listed,Ls,L,F,S,g,a,w,hLe,h,hm,G,hL,J=>by
  obtain⟨hP,hFA,hN,_,_⟩:=hLe.P;have hA':P9 F.A F.P:=by rw[hFA,hP];exact hA
  have hRn':∀f vs sh cs outs,Rn f vs sh cs outs->Ct F.A F.P f vs sh cs outs:=by rw[hFA,hP];exact hRn
  have main:∀top,Iu F0.P F0.N ops top (.op i gd sf x r) listed Ls=true->∃o,ops[i]?=some o/\Nh ops o.guard gd=true/\Oj F.P F.N o.dst o.op x=true/\(∀p∈EX o.op x,Mt F.A F.P p.1 p.2)/\(∀t∈Ls,o.dst≠some t.2) /\
   (match NH x with
    |.pure=>top=true/\i∈Bk .any ops listed/\Region.free .any ops listed i=true/\Iu F0.P F0.N ops true r (listed.setIfInBounds i true) Ls=true|.ld=>top=true/\i∈Bk .any ops listed/\Region.free .any ops listed i=true/\∃s,Tj x=some s/\o.dst≠some s/\Iu F0.P F0.N ops true r (listed.setIfInBounds i true) ((i,s)::Ls)=true|.eff=>(top=true->i∈Bk .any ops listed/\∀j∈Bk .any ops listed,j=i)/\(∀t∈Ls,SP ops ops.size i t.1=true\/t.2∈sf)/\Iu F0.P F0.N ops true r (listed.setIfInBounds i true) Ls=true):=by
   intro top q;unfold Iu at q;split at q
   .cases q
   .rename_i o ho;simp only[AF,CG,A8,beq_eq_false_iff_ne,ne_eq]at q;obtain⟨⟨⟨h1,h2⟩,h3⟩,h4⟩:=q;refine⟨o,ho,h1,by rw[hP,hN];exact h2,by rw[hFA,hP];exact λp hp=>hm p (by simp[NN,ho,hp]),h3,?_⟩;cases e:NH x with
    |pure=>
     simp only[e,AF,Ez]at h4;exact⟨h4.1.1.1,h4.1.1.2,h4.1.2,h4.2⟩
    |ld=>
     simp only[e,AF,Ez]at h4;obtain⟨⟨⟨k1,k2⟩,k3⟩,k4⟩:=h4;refine⟨k1,k2,k3,?_⟩;split at k4
     .rename_i s hs;simp only[AF,A8,beq_eq_false_iff_ne,ne_eq]at k4;exact⟨s,hs,k4.1,k4.2⟩
     .cases k4
    |eff=>
     simp only[e,AF,CG,DA,A8,Ez,beq_iff_eq]at h4;refine⟨λht=>?_,λt ht=>(h4.1.2 t ht).symm,h4.2⟩;rcases h4.1.1 with hh|hh
     .rw[ht]at hh;cases hh
     .exact hh
  have hmr:∀p∈NN ops r,Mt F0.A F0.P p.1 p.2:=λp hp=>hm p (by simp only[NN,Bs];exact .inr hp)
  obtain⟨b,hb,J⟩:=J;have effect:∀o,ops[i]?=some o->Nh ops o.guard gd=true->Oj F.P F.N o.dst o.op x=true->(∀p∈EX o.op x,Mt F.A F.P p.1 p.2)->(∀t∈Ls,o.dst≠some t.2)->(∀t∈Ls,SP ops ops.size i t.1=true\/t.2∈sf) ->
   Iu F0.P F0.N ops true r (listed.setIfInBounds i true) Ls=true->i∈Bk .any ops listed->∀fuel,I3 r<=fuel ->
   wpOp F0.P ops (Fin F0 K) i (λa' w'=>(∀t∈L,SP ops ops.size i t.1=false->w'.heap[t.2]?=w.heap[t.2]?)/\P7 F0.P ops (Fin F0 K) L fuel (listed.setIfInBounds i true) a' w') a w:=by
   intro o ho hg Z hmo X hw q I fuel hf;have hwant:=Ux h hg hb;have hLn:∀v,∀t∈L,∃s,(t.1,s)∈Ls/\K6 ((a.put o.dst v).tmps.getD s undef)=some t.2:=by
    intro v t ht;obtain⟨s,h1,h2⟩:=hL t ht;exact⟨s,h1,by rw[Om (X _ h1)];exact h2⟩
   unfold wpOp;simp only[ho,hwant];rcases J with ⟨rfl,hsf,J⟩|⟨rfl,S',hs,J⟩
   .simp only[if_true];left;rw[<-hP];refine Oper.Qc.wp ((AUH hA' hRn' h Z hmo J).put.mono ?_);rintro a' w' ⟨⟨v,rfl⟩,F',S',g',hLe',H,E,hfr⟩;rw[hP];refine⟨?_,(Ov hA hRn B r (listed.setIfInBounds i true) Ls L F' S' g' _ w' (hLe.trans hLe') H hmr (G.set I) (hLn v) E).1 q fuel hf⟩;intro t ht hwt;obtain⟨s,h1,h2⟩:=hL t ht;rcases hw _ h1 with hh|hh
    .rw[hwt]at hh;cases hh
    .obtain⟨l,hl,hsl⟩:=tF hsf s hh;obtain⟨q1,q2⟩:=AX0 h hl hsl h2;exact hfr t.2 q1 q2
   .simp only[BJ,if_false];obtain⟨g',H⟩:=yy h Z hs;exact⟨λ_ _ _=>trivial,(Ov hA hRn B r (listed.setIfInBounds i true) Ls L F S' g' _ w hLe H hmr (G.set I) (hLn _) J).1 q fuel hf⟩
  constructor
  .intro q fuel hf;obtain⟨o,ho,hg,Z,hmo,X,e⟩:=main true q;simp only[I3]at hf;obtain⟨fuel,rfl⟩:∃f,fuel=f+1:=⟨fuel-1,by omega⟩;have hwant:=Ux h hg hb;have hLn:∀v,∀t∈L,∃s,(t.1,s)∈Ls/\K6 ((a.put o.dst v).tmps.getD s undef)=some t.2:=by
    intro v t ht;obtain⟨s,h1,h2⟩:=hL t ht;exact⟨s,h1,by rw[Om (X _ h1)];exact h2⟩
   have hQ:∀{v:Value} c (a:Act) w,Fin F0 K (.panic c) (a.put o.dst v) w->Fin F0 K (.panic c) a w:=λc a w hh=>by cases hh.1
   by_cases heff:NH x=.eff
   .rw[heff]at e;obtain⟨h1,h2,h3⟩:=e;obtain⟨I,hall⟩:=h1 rfl;refine⟨λh0=>(by rw[h0]at I;cases I),λj hj=>?_⟩;have:=hall j hj;subst this;exact effect o ho hg Z hmo X h2 h3 hj fuel (by omega)
   .have hirf:i∈Bk .any ops listed/\Region.free .any ops listed i=true:=by
     cases E:NH x with
     |pure=>rw[E]at e;exact⟨e.2.1,e.2.2.1⟩|ld=>rw[E]at e;exact⟨e.2.1,e.2.2.1⟩|eff=>exact absurd E heff
    obtain⟨I,hfree⟩:=hirf;rcases J with ⟨rfl,hsf,J⟩|⟨rfl,S',hs,J⟩
    .obtain⟨S',hev,J⟩:=AZx heff J;have O:=AD9 h Z hmo hev;cases E:NH x with
     |pure=>
      rw[E]at e;unfold Did at O;rw[E]at O;obtain⟨v,g',hrun,H⟩:=O;refine N0 (b:=0) (ob:=none) (v:=v) ho (Region.noSelect_spec B) hQ false fuel listed a w G (Region.free_spec ho hfree) I (.inl ⟨hwant,λw1 _=>by rw[<-hP];exact hrun w1⟩) (λhh=>by cases hh) ?_;exact(Ov hA hRn B r _ Ls L F S' g' _ w hLe H hmr (G.set I) (hLn v) J).1 e.2.2.2 fuel (by omega)
     |ld=>
      rw[E]at e;unfold Did at O;rw[E]at O;obtain⟨v,g',y,hy,hrun,H⟩:=O;obtain⟨_,_,_,s,hs,hds,Y⟩:=e;have hys:=AZU Z hs hy;subst hys;have hev:a.eval (.tmp s)=a.tmps.getD s undef:=by simp[Act.eval]
      cases hblk:K6 (a.tmps.getD s undef) with
      |none=>
       refine N0 (b:=0) (ob:=none) (v:=v) ho (Region.noSelect_spec B) hQ false fuel listed a w G (Region.free_spec ho hfree) I (.inl ⟨hwant,λw1 _=>by rw[<-hP];exact hrun w1 (λb hb=>by rw[hev,hblk]at hb;cases hb)⟩) (λhh=>by cases hh) ?_;refine(Ov hA hRn B r _ ((i,s)::Ls) L F S' g' _ w hLe H hmr (G.set I) ?_ J).1 Y fuel (by omega);intro t ht;obtain⟨s',h1,h2⟩:=hLn v t ht;exact⟨s',by simp[h1],h2⟩
      |some b=>
       refine N0 (b:=b) (ob:=w.heap[b]?) (v:=v) ho (Region.noSelect_spec B) hQ true fuel listed a w G (Region.free_spec ho hfree) I (.inl ⟨hwant,λw1 hw1=>by
        rw[<-hP];refine hrun w1 (λb' hb'=>?_);rw[hev,hblk]at hb';cases hb';exact hw1 rfl⟩) (λ_=>rfl) ?_
       refine(Ov hA hRn B r _ ((i,s)::Ls) ((i,b)::L) F S' g' _ w hLe H hmr (G.set I) ?_ J).1 Y fuel (by omega);intro t ht;rcases Ae.1 ht with rfl|ht
       .exact⟨s,by simp,by rw[Om hds];exact hblk⟩
       .obtain⟨s',h1,h2⟩:=hLn v t ht;exact⟨s',by simp[h1],h2⟩
     |eff=>exact absurd E heff
    .obtain⟨g',H⟩:=yy h Z hs;have hrest:∃Ls',(∀t∈Ls,t∈Ls')/\Iu F0.P F0.N ops true r (listed.setIfInBounds i true) Ls'=true:=by
      cases E:NH x with
      |pure=>rw[E]at e;exact⟨Ls,λ_ h=>h,e.2.2.2⟩|ld=>rw[E]at e;obtain⟨_,_,_,s,_,_,Y⟩:=e;exact⟨_,λt ht=>List.mem_cons_of_mem _ ht,Y⟩
      |eff=>exact absurd E heff
     obtain⟨Ls',hsub,Y⟩:=hrest;refine N0 (b:=0) (ob:=none) (v:=undef) ho (Region.noSelect_spec B) hQ false fuel listed a w G (Region.free_spec ho hfree) I (.inr ⟨hwant,rfl⟩) (λhh=>by cases hh) ?_;refine(Ov hA hRn B r _ Ls' L F S' g' _ w hLe H hmr (G.set I) ?_ J).1 Y fuel (by omega);intro t ht;obtain⟨s',h1,h2⟩:=hLn undef t ht;exact⟨s',hsub _ h1,h2⟩
  .intro q fuel hf j hj hjr;obtain⟨o,ho,hg,Z,hmo,X,e⟩:=main false q;simp only[PS,D5]at hj;subst hj;simp only[I3]at hf;cases E:NH x with
   |pure=>rw[E]at e;cases e.1
   |ld=>rw[E]at e;cases e.1
   |eff=>
    rw[E]at e;exact effect o ho hg Z hmo X e.2.1 e.2.2 hjr fuel (by omega)
end
section
variable{F:Fix}{S S':St}{g g':Gh}{a a':Act}{w w':World}
def Twin(a:Act)(w:World)(d p c e:Nat):Prop:=∃bb v0 blk off len cap,a.tmps.getD p undef=.pointer (some ⟨bb,0,none⟩)/\w.cell? ⟨bb,c,none⟩=some v0 /\
 a.tmps.getD d undef=.slice (some ⟨blk,off,none⟩) (len+1) cap/\w.cell? ⟨blk,off+len*e+c,none⟩=some v0
theorem Inv.see(h:Inv F S g a w){d p c e}(hT:Twin a w d p c e):Inv F (S.see d p c e) g a w:=by
 obtain⟨bb,v0,blk,off,len,cap,t1,t2,t3,t4⟩:=hT;unfold St.see;split
 case h_2=>exact h
 rename_i b e' xs O I;split
 case h_2=>exact h
 rename_i e2 ys hc G;split
 case isFalse=>exact h
 rename_i he;subst he;have H:a.tmps.getD p undef=.pointer (some ⟨g.β b,0,none⟩):=(Gm (o:=.tmp p) h O (by simp[CH]) (λp O=>by simp[CI]at O)).1;rw[H]at t1;cases t1;obtain⟨u,B,hO⟩:=h.C0 _ _ I;have hO:Own w (.sl e' xs) u (g.fp (.tmp d 0)):=hO;have X:a.tmps.getD d undef=u:=by
  have q:=I;simp only[St.at]at q;split at q
  .rename_i ent y;have B:(g.tv d)[0]?=some u:=B;rw[(h.tms d ent y).2.1]at t3 ⊢;have J:(g.tv d).headD undef=u:=by cases hv:g.tv d with|nil=>simp[hv]at B|cons x r=>simpa[hv] using B
   cases hs:ent.sh with
   |agg=>rw[hs]at t3;cases t3
   |tup ns=>rw[hs]at t3;cases t3
   |_=>exact J
  .cases q
 rw[X]at t3;subst t3;cases hO with
 |sc J=>exact J.elim|sl c0 f k1 k2 k3 k4 k5 k6 k7 k8 k9 Y=>
  have Z:=k6 _ _ _ G;rw[<-k1,Nat.add_sub_cancel]at Z G;rw[k4.cell,Z]at t4;cases t4;have hr:g.rv (.cell b c)=some (c0 len c):=by
   have j:=hc;simp only[St.at]at j;split at j
   .rename_i ls L;obtain⟨⟨E,hE⟩,_⟩:=h.bxs b ls L;simp only[World.cell?,hE]at t2;simpa[Gh.rv] using t2
   .cases j
  exact h.Aa5 hc hr (by simp) ⟨⟨_,I⟩,⟨f len c,λx H=>(Y x).2 (.inr ⟨len,c,_,G,H⟩),k7 _ _ _ G⟩,trivial⟩
theorem Yd{d}{v}(c:d<F.N)(h:a.tmps.size=F.N):(a.put (some d) v).tmps.getD d undef=v:=by
 simp[Act.put,C8,h,c]
theorem YW{o:Operand}{t:Nat}(h:CH o (.tmp t)=true):o=.tmp t:=by
 cases o<;>simp[CH]at h;rw[h]
theorem AZV(h:Inv F S g a w){o:Oper}{d n p:Nat}(c:Oj F.P F.N o.dst o.op (.ld d (some n) (.tmp p))=true)(B:ev (.ld d (some n) (.tmp p)) S=some S') :
 ∃(b off:Nat) (vs:List Value) (g':Gh),a.tmps.getD p undef=.pointer (some ⟨b,off,none⟩)/\(∀(j:Nat) u,vs[j]?=some u->w.cell? ⟨b,off+j,none⟩=some u)/\vs.length=n /\
  (execOp a.eval o).run F.P w=.ok (.value (.agg vs.toArray)) w/\Inv F S' g' (a.put (some d) (.agg vs.toArray)) w/\o.dst=some d/\d<F.N:=by
 obtain⟨dst,op,ty,pos,after,guard⟩:=o;simp only[Oj,AF]at c;obtain⟨E,c⟩:=c;obtain⟨rfl,X⟩:=DJ (x:=.ld d (some n) (.tmp p)) E rfl;generalize hx:XOp.ld d (some n) (.tmp p)=x at c;split at c
 all_goals first|(cases hx;done)|(cases c;done)|skip
 rename_i t y _ _ _;cases hx;simp only[AF]at c;obtain⟨G,Y⟩:=c;obtain rfl:=YW Y;simp only[ev]at B;split at B
 .rename_i q hq;split at B
  .rename_i ls H;obtain⟨b,o',vs,Z,L,h2,O,hc⟩:=PW h (Gm h hq Y (λp hp=>by simp[CI]at hp)).1 H;unfold JE at G;split at G
   .rename_i dsc i hu hi;simp only[AF,beq_iff_eq]at G;obtain⟨I,hk⟩:=G;obtain⟨fs,rfl⟩:∃fs,dsc=.struct fs:=by cases dsc<;>simp[Qf]at I;exact⟨_,rfl⟩
    obtain⟨g',hg⟩:=h.EY (e:=⟨.agg,ls⟩) (by simpa[shN] using B) X hc;have J:a.tmps.getD p undef=.pointer (some ⟨b,o',none⟩):=Z;refine⟨b,o',vs,g',J,O,by simpa[Dn] using L,?_,by simpa[mkV] using hg,rfl,X⟩;have hr:=Yn (P:=F.P) (w:=w) hu hi (by simp[Dn]at L;omega) O;simp only[execOp,Am,Z,hr,Ao,Ay]
   .cases G
  .cases B
 .cases B
theorem AY6(h:Inv F S g a w){o:Oper}{s l:Nat}{q:List T}{vs:List Value}(c:Oj F.P F.N o.dst o.op (.CC s 1 q [(0,.tmp l)])=true)(hm:∀p∈EX o.op (.CC s 1 q [(0,.tmp l)]),Mt F.A F.P p.1 p.2)
 (j:ev (.CC s 1 q [(0,.tmp l)]) S=some S') (hl:a.tmps.getD l undef=.agg vs.toArray) (I:vs.length=q.length) :
 ∃el g',(execOp a.eval o).run F.P w=.ok (.value (.slice (some ⟨w.heap.size,0,none⟩) 1 1)) (World.push w (.cells vs.toArray el (0,0))) /\
  Inv F S' g' (a.put (some s) (.slice (some ⟨w.heap.size,0,none⟩) 1 1)) (World.push w (.cells vs.toArray el (0,0)))/\o.dst=some s/\s<F.N:=by
 obtain⟨n,v,w',g',Y,G,h3,_⟩:∃n v w' g',(execOp a.eval o).run F.P w=.ok n w'/\(n=.value v\/(n=.skip/\v=undef))/\Inv F S' g' (a.put o.dst v) w'/\∀b,b<w.heap.size->¬Tch S g (.CC s 1 q [(0,.tmp l)]) b->w'.heap[b]?=w.heap[b]?:=AD9 h c hm j;have hlim:1*q.length<=16777216:=by
  simp only[ev]at j;split at j
  .assumption
  .cases j
 obtain⟨dst,op,ty,pos,after,guard⟩:=o;simp only[Oj,AF]at c;obtain⟨H,c⟩:=c;obtain⟨rfl,hd⟩:=DJ (x:=.CC s 1 q [(0,.tmp l)]) H rfl;generalize hx:XOp.CC s 1 q [(0,.tmp l)]=x at c;split at c
 all_goals first|(cases hx;done)|(cases c;done)|skip
 rename_i t n0 ps _ _ _ _;cases hx;simp only[AF,beq_iff_eq]at c;obtain⟨⟨⟨rfl,he⟩,O⟩,y⟩:=c;have J:ps=#[(0,.tmp l)]:=by
  rcases ps with ⟨ps⟩
  match ps,y with
  | [],y=>simp[Np]at y| [(i,o)],y=>
   simp only[Np,AF,beq_iff_eq]at y;obtain⟨⟨rfl,ho⟩,_⟩:=y;rw[YW ho]
  |_::_::_,y=>simp[Np]at y
 subst J;split at O
 .rename_i el hu;obtain⟨i,z,hi,X,E,hzsz,_⟩:=Yl (w:=w) O;have e:(madeCells z.cells (1*i.size)).size=q.length:=by simp[madeCells,E]
  have hr:=nZ (P:=F.P) (w:=w) (n:=1) (parts:=#[(0,.agg vs.toArray)]) (cells':=vs.toArray) hu hi X (by rw[E];exact hlim) (by
   have L:(Value.agg vs.toArray).cells=vs.toArray:=rfl;have Z:=RX vs (0*i.size) 0 (madeCells z.cells (1*i.size));generalize madeCells z.cells (1*i.size)=C at e Z ⊢;simp only[Instr.fill,L,A1];rw[AT (by simp[E,I,e]),<-Js,JN];congr 1;apply B3.1;refine Z.trans ?_;rw[K1 _ _ _ (by simp[e,I])];simp[e,I])
  have B:(execOp a.eval ⟨some s,.buildSlice t 1 #[(0,.tmp l)],ty,pos,after,guard⟩).run F.P w=.ok (.value (.slice (some ⟨w.heap.size,0,none⟩) 1 1)) (World.push w (.cells vs.toArray el (0,0))):=by
   have:a.eval (.tmp l)=.agg vs.toArray:=hl;simp only[execOp,Am,C1,AK,Ba,this,hr,Ao,Ay]
  rw[B]at Y;cases Y;rcases G with G|⟨G,_⟩
  .cases G;exact⟨el,g',B,h3,rfl,hd⟩
  .cases G
 .cases O
theorem AWc(h:Inv F S g a w){o:Oper}{r e m s:Nat}{fl:Bool}{news:List Value}{blk cap:Nat}(c:Oj F.P F.N o.dst o.op (.app r e fl (.tmp m) (.tmp s))=true)(J:ev (.app r e fl (.tmp m) (.tmp s)) S=some S')
 (hs:a.tmps.getD s undef=.slice (some ⟨blk,0,none⟩) 1 cap) (hr:∀(j:Nat) v,news[j]?=some v->w.cell? ⟨blk,j,none⟩=some v) (hl:news.length=e) :
 ∃Y w' g' len,(execOp a.eval o).run F.P w=.ok (.value Y) w'/\Inv F S' g' (a.put (some r) Y) w'/\(∀b,b<w.heap.size->(∀l r,S.one (.tmp m)=some l->l.B8=some r->¬g.fp r b)->w'.heap[b]?=w.heap[b]?) /\
  eS Y w' len 1 e news/\o.dst=some r/\r<F.N:=by
 obtain⟨dst,op,ty,pos,after,guard⟩:=o;simp only[Oj,AF]at c;obtain⟨G,c⟩:=c;obtain⟨rfl,hd⟩:=DJ (x:=.app r e fl (.tmp m) (.tmp s)) G rfl;generalize hx:XOp.app r e fl (.tmp m) (.tmp s)=x at c;split at c
 all_goals first|(cases hx;done)|(cases c;done)|skip
 cases hx;split at c
 .rename_i y z t u e1 e2;obtain rfl:=B3.1 e1;obtain rfl:=B3.1 e2;simp only[AF]at c;obtain⟨⟨⟨⟨Z,h2⟩,h3⟩,I⟩,h5⟩:=c;obtain rfl:=YW Z;obtain rfl:=YW h2;split at I
  .rename_i el hu;have h6:∃dd,F.P.underlying u=some dd/\(dd=.string\/∃e',dd=.slice e'):=by
    split at h5
    .rename_i el' q;exact⟨_,q,.inr ⟨_,rfl⟩⟩
    .rename_i q;exact⟨_,q,.inl rfl⟩
    .cases h5
   obtain⟨dd,B,E⟩:=h6;obtain⟨v,w',g',H,hg,L,hA⟩:=yN (ty:=ty) h hd J Z h2 (λp O=>by simp[CI]at O) (λp O=>by simp[CI]at O) h3 hu I B E;have X:a.eval (.tmp s)=.slice (some ⟨blk,0,none⟩) 1 cap:=hs;have hcell:∀w1:World,(∀(j:Nat) v,news[j]?=some v->w1.cell? ⟨blk,j,none⟩=some v)->∀(j:Nat) v,news[j]?=some v->w1.cell? ((⟨blk,0,none⟩:Addr).add j)=some v:=by
    intro w1 h j v hj;rw[G3,Ar];exact h j v hj
   obtain⟨len,hE⟩:=hA 1 news (by
    rw[X];exact⟨λw'=>by simp[Bd],run_firstCells_some (P:=F.P) w e 1 ⟨blk,0,none⟩ _ cap news (by omega) (hcell w hr),run_firstCells_some (P:=F.P) w.drew e 1 ⟨blk,0,none⟩ _ cap news (by omega) (hcell w.drew hr)⟩) (by omega)
   exact⟨v,w',g',len,by simp only[execOp,resolve,invoke,builtin,Am,Ay,Ao,C1,AK,Ba,H],hg,L,hE,rfl,hd⟩
  .cases I
 .cases c
theorem AYy{o:Oper}{d r:Nat}(c:Oj F.P F.N o.dst o.op (.as d (.tmp r))=true):o.dst=some d/\d<F.N/\∀w:World,(execOp a.eval o).run F.P w=.ok (.value (a.tmps.getD r undef)) w:=by
 obtain⟨dst,op,ty,pos,after,guard⟩:=o;simp only[Oj,AF]at c;obtain⟨e,c⟩:=c;obtain⟨rfl,j⟩:=DJ (x:=.as d (.tmp r)) e rfl;generalize h:XOp.as d (.tmp r)=x at c;split at c
 all_goals first|(cases h;done)|(cases c;done)|skip
 cases h;obtain rfl:=YW c;exact⟨rfl,j,λw=>rfl⟩
theorem Tt{Rn:Rel}{x:XOp}{xs:List (Option (Nat×Bool)×XOp)}{K:St->Prop}(q:Fy x S=none)(h:ai Rn ((none,x)::xs) S K):∃S',ev x S=some S'/\ai Rn xs S' K:=by
 obtain⟨b,e,c⟩:=h;simp only[wanted,AD]at e;subst e;rcases c with ⟨_,c⟩|⟨e,_⟩
 .rcases c with c|⟨d,f,es,S1,vs,sh,cs,outs,S2,j,_⟩
  .exact c
  .rw[q]at j;cases j
 .cases e
theorem Qw(h:Inv F S g a w){ops:Array Oper}{o:Oper}{os:List Oper}{Q:Exit->Act->World->Prop}{v:Value}(c:Nh ops o.guard none=true)(j:(execOp a.eval o).run F.P w=.ok (.value v) w')
 (e:wpList F.P ops Q os (a.put o.dst v) w'):wpList F.P ops Q (o::os) a w:=by
 have q:=Ux h c (b:=true) rfl;simp only[wpList,q,if_true];left;refine Oper.Qc.wp ?_;unfold Oper.Qc;rw[j];exact e
theorem AXn{Rn:Rel}(h:Inv F S g a w){ops:Array Oper}{os:List Oper}{xa xb:List (Option (Nat×Bool)×XOp)}{d p c e:Nat}{K:St->Prop}(G:AHb d p c e xa xb=true)(y:Mw F.P F.N ops os (xa++xb)=true)
 (O:∀q∈ML os (xa++xb),Mt F.A F.P q.1 q.2) (B:ai Rn xa S λS=>(∃id,S.one (.tmp p)=some (.bp id 0)/\(get S.bx id).isSome=true)/\ai Rn xb S K) :
 wpList F.P ops (λex a' w'=>ex=.normal/\∃S' g',Inv F S' g' a' w'/\Twin a' w' d p c e/\K S') os a w:=by
 unfold AHb at G;split at G
 case h_2=>cases G
 rename_i m d0 l n p' s zs l' r e' fl m' s' d' r';simp only[AF,beq_iff_eq,decide_eq_true_eq,Ae,List.not_mem_nil,or_false,not_or]at G;obtain⟨⟨⟨⟨⟨⟨⟨⟨⟨⟨x1,x2⟩,x3⟩,x4⟩,x5⟩,x6⟩,x7⟩,x8⟩,hz⟩,hc⟩,p1,p2,p3,p4,p5⟩:=G;obtain rfl:=x1.symm;obtain rfl:=x2.symm;obtain rfl:=x3.symm;obtain rfl:=x4.symm;obtain rfl:=x5.symm;obtain rfl:=x6.symm;obtain rfl:=x7.symm;obtain rfl:=x8.symm
 match os,y,O with
 | [o1,o2,o3,o4,o5],y,O=>
  simp only[Bm,Be,Mw,AF]at y;simp only[Bm,Be,ML,Bs]at O;obtain⟨⟨q1,k1⟩,⟨q2,k2⟩,⟨q3,k3⟩,⟨q4,k4⟩,⟨q5,k5⟩,_⟩:=y;obtain⟨S1,e1,B⟩:=Tt rfl B;obtain⟨S2,e2,B⟩:=Tt rfl B;obtain⟨S3,e3,B⟩:=Tt rfl B;obtain⟨⟨id,hid,hbx⟩,B⟩:=B;obtain⟨S4,e4,B⟩:=Tt rfl B;obtain⟨S5,e5,B⟩:=Tt rfl B;obtain⟨v1,g1,r1,i1⟩:∃v g',(∀w1,(execOp a.eval o1).run F.P w1=.ok (.value v) w1)/\Inv F S1 g' (a.put o1.dst v) w:=AD9 h k1 (λq hq=>O q (.inl hq)) e1;refine Qw h q1 (r1 w) ?_;generalize ha1:a.put o1.dst v1=a1 at i1;obtain⟨b,off,vs,g2,t1,t2,t3,r2,i2,d2,n2⟩:=AZV i1 k2 e2;refine Qw i1 q2 r2 ?_;rw[d2];have hl2:(a1.put (some l) (.agg vs.toArray)).tmps.getD l undef=.agg vs.toArray:=Yd n2 i1.tsz;have hp2:(a1.put (some l) (.agg vs.toArray)).tmps.getD p undef=.pointer (some ⟨b,off,none⟩):=by rw[Om (λg=>p2 (Option.some.inj g).symm)];exact t1
  generalize ha2:a1.put (some l) (.agg vs.toArray)=a2 at i2 hl2 hp2;obtain⟨el,I,r3,H,d3,n3⟩:=AY6 i2 k3 (λq hq=>O q (.inr (.inr (.inl hq)))) e3 hl2 (by omega);refine Qw i2 q3 r3 ?_;rw[d3];have hs3:=Yd (v:=.slice (some ⟨w.heap.size,0,none⟩) 1 1) n3 i2.tsz;have J:(a2.put (some s) (.slice (some ⟨w.heap.size,0,none⟩) 1 1)).tmps.getD p undef=.pointer (some ⟨b,off,none⟩):=by rw[Om (λg=>p3 (Option.some.inj g).symm)];exact hp2
  generalize ha3:a2.put (some s) (.slice (some ⟨w.heap.size,0,none⟩) 1 1)=a3 at H hs3 J;generalize L:World.push w (.cells vs.toArray el (0,0))=w3 at H;have hcell3:∀(j:Nat) v,vs[j]?=some v->w3.cell? ⟨w.heap.size,j,none⟩=some v:=by
   intro j v hj;rw[<-L];have:Fb (World.push w (.cells vs.toArray el (0,0))) w.heap.size vs.toArray el 1:=.of LR;rw[this.cell];simpa using hj
  obtain⟨v4,w4,g4,len,r4,i4,f4,hE,d4,n4⟩:=AWc H k4 e4 hs3 hcell3 (by omega);refine Qw H q4 r4 ?_;rw[d4];have hr4:=Yd (v:=v4) n4 H.tsz;have hp4:(a3.put (some r) v4).tmps.getD p undef=.pointer (some ⟨b,off,none⟩):=by rw[Om (λg=>p4 (Option.some.inj g).symm)];exact J
  generalize ha4:a3.put (some r) v4=a4 at i4 hr4 hp4;obtain⟨v5,g5,r5,i5⟩:∃v g',(∀w1,(execOp a4.eval o5).run F.P w1=.ok (.value v) w1)/\Inv F S5 g' (a4.put o5.dst v) w4:=AD9 i4 k5 (λq hq=>O q (by simp[hq])) e5;refine Qw i4 q5 (r5 w4) ?_;refine⟨rfl,S5,g5,i5,?_,B⟩;have X:a3.tmps.getD p undef=.pointer (some ⟨I.β id,0,none⟩):=(Gm (o:=.tmp p) H hid (by simp[CH]) (λp G=>by simp[CI]at G)).1;rw[J]at X;cases X;have hvc:∃v0,vs[c]?=some v0:=⟨vs[c]'(by omega),by simp⟩;obtain⟨v0,hv0⟩:=hvc;have E:=t2 c v0 hv0;rw[Ar]at E;have hblt:I.β id<w.heap.size:=by
   simp only[World.cell?]at E;split at E<;>first|(cases E;done)|(rename_i hh;exact(BB.1 hh).1)|skip
  have Y:w3.heap[I.β id]?=w.heap[I.β id]?:=by rw[<-L];exact FG hblt
  have Z:w4.heap[I.β id]?=w3.heap[I.β id]?:=by
   refine f4 _ ?_ λlf rt hlf hrt=>?_
   .rw[<-L];simp[World.push];omega
   .obtain⟨hleaf,_⟩:=Gm (o:=.tmp m) H hlf (by simp[CH]) (λp G=>by simp[CI]at G);exact H.Fh rt id (hleaf.alive hrt) hbx
  obtain⟨blk,of4,cap,hv4,hc4⟩:=hE;obtain⟨d5,n5,r6⟩:=AYy (a:=a4) k5;have h5:v5=v4:=by
   have:=(r5 w4).symm.trans (r6 w4);rw[hr4]at this;cases this;rfl
  subst h5;refine⟨I.β id,v0,blk,of4,len,cap,?_,?_,?_,hc4 c v0 hv0⟩
  .rw[d5,Om (λg=>p5 (Option.some.inj g).symm)];exact hp4
  .rw[JW Z,JW Y];exact E
  .rw[d5,Yd n5 i4.tsz];exact hv4
 | [],y,_ | [_],y,_ | [_,_],y,_ | [_,_,_],y,_ | [_,_,_,_],y,_|_::_::_::_::_::_::_,y,_=>simp[Mw]at y
end
def Ex.exit:Ex->Exit|.n=>.normal|.x id=>.exit id|.r=>.ret
def End(F0:Fix)(Q:Ex->St->Prop)(ex:Exit)(a:Act)(w:World):Prop:=∃e F' S' g',ex=Ex.exit e/\F0.Le F'/\Inv F' S' g' a w/\Q e S'
theorem Eg{Rn}{F0}(hA:P9 F0.A F0.P)(hRn:∀f vs sh cs outs,Rn f vs sh cs outs->Ct F0.A F0.P f vs sh cs outs) :
 ∀(x:OH) (c:Code) (F:Fix) (S:St) (g:Gh) (a:Act) (w:World) (Q:Ex->St->Prop),F0.Le F->Inv F S g a w->codeOk F0.P F0.N c x=true->(∀p∈Ef c x,Mt F0.A F0.P p.1 p.2)->wp Rn x S Q ->
  c.wp F0.P (End F0 Q) a w
 |.skip,c,F,S,g,a,w,Q,hL,h,y,G,E=>by
  cases c<;>simp[codeOk]at y;exact wp_skip ⟨.n,F,S,g,rfl,hL,h,E⟩
 |.region xs FD,c,F,S,g,a,w,Q,hL,h,y,G,E=>by
  cases c<;>simp only[codeOk,AF,A8,BJ]at y;obtain⟨rfl,y⟩:=y;refine wp_mono (wp_region_list (nC hA hRn xs _ F S g a w hL h y G E)) ?_;rintro e a' w' ⟨rfl,F',S',g',hL',I,ks,B⟩;exact⟨.n,F',_,g',rfl,hL',I.clean ks,B⟩
 |.Vi r FD,c,F,S,g,a,w,Q,hL,h,y,G,E=>by
  cases c<;>simp only[codeOk,AF,decide_eq_true_eq,BJ]at y;rename_i id ops d;obtain⟨⟨⟨⟨rfl,hmo⟩,Y⟩,O⟩,y⟩:=y;have y:=MU _ _ _ _ y;rw[AWj]at y;have hcl:O8 ops (Array.replicate ops.size false):=by
   intro j oj hj hl;have:j<ops.size:=(BB.1 hj).1;simp[this]at hl
  refine wp_mono (wp_region_any hmo (og _ _ _ _ ((Ov hA hRn Y r _ [] [] F S g a _ hL (h.drawn _) G hcl (λt Z=>by cases Z) E).1 y _ O))) ?_;rintro e a' w' ⟨rfl,F',S',g',hL',I,ks,B⟩;exact⟨.n,F',_,g',rfl,hL',I.clean ks,B⟩
 |.seq p q,c,F,S,g,a,w,Q,hL,h,y,G,E=>by
  cases c<;>simp only[codeOk,AF,BJ]at y;refine wp_seq (wp_mono (Eg hA hRn p _ F S g a w _ hL h y.1 (λp H=>G p (by simp[Ef,H])) E) ?_);rintro e a' w' ⟨L,F',S',g',rfl,hL',I,B⟩;cases L with
  |n=>exact Eg hA hRn q _ F' S' g' a' w' _ hL' I y.2 (λp H=>G p (by simp[Ef,H])) B|x id=>exact⟨.x id,F',S',g',rfl,hL',I,B⟩|r=>exact⟨.r,F',S',g',rfl,hL',I,B⟩
 |.cond c' kt ke t e,c,F,S,g,a,w,Q,hL,h,y,G,E=>by
  cases c with
  |cond co tc ec=>
   cases co with
   |tmp s=>
    simp only[codeOk,AF,beq_iff_eq]at y;obtain⟨⟨rfl,Z⟩,he⟩:=y;obtain⟨b,hb,ks,E⟩:=E;have hsc:Sc (.bool b) (a.eval (.tmp s)):=Q1 (o:=.tmp s) h hb (by simp[CH]) (λp H=>by simp[CI]at H);refine wp_cond (t:=b) hsc ?_;cases b with
    |true=>simp only[if_true]at E ⊢;exact Eg hA hRn t _ F _ g a w _ hL (h.clean ks) Z (λp H=>G p (by simp[Ef,H])) E|false=>simp only[BJ,if_false]at E ⊢;exact Eg hA hRn e _ F _ g a w _ hL (h.clean ks) he (λp H=>G p (by simp[Ef,H])) E
   |_=>simp[codeOk]at y
  |_=>simp[codeOk]at y
 |.block id b,c,F,S,g,a,w,Q,hL,h,y,G,E=>by
  cases c<;>simp only[codeOk,AF,beq_iff_eq,BJ]at y;obtain⟨rfl,y⟩:=y;refine wp_block (wp_mono (Eg hA hRn b _ F S g a w _ hL h y (λp H=>G p (by simpa[Ef] using H)) E) ?_);rintro e a' w' ⟨L,F',S',g',rfl,hL',I,B⟩;cases L with
  |n=>exact⟨.n,F',S',g',rfl,hL',I,B⟩|x i=>
   simp only[Ex.exit,Exit.inBlock];dsimp only at B;split
   .rename_i hi;rw[AW hi]at B;exact⟨.n,F',S',g',rfl,hL',I,B⟩
   .rename_i hi;rw[AT hi]at B;exact⟨.x i,F',S',g',rfl,hL',I,B⟩
  |r=>exact⟨.r,F',S',g',rfl,hL',I,B⟩
 |.loop b,c,F,S,g,a,w,Q,hL,h,y,G,E=>by
  cases c<;>simp only[codeOk,BJ]at y;obtain⟨n,E⟩:=E;refine wp_loop_rounds n ?_
  induction n generalizing F S g a w with
  |zero=>exact E.elim|succ n ih=>
   rw[rounds_succ];refine wp_mono (Eg hA hRn b _ F S g a w _ hL h y (λp H=>G p (by simpa[Ef] using H)) E) ?_;rintro e a' w' ⟨L,F',S',g',rfl,hL',I,B⟩;cases L with
   |n=>exact ih F' S' g' a' w' hL' I B|x id=>exact⟨.x id,F',S',g',rfl,hL',I,B⟩|r=>exact⟨.r,F',S',g',rfl,hL',I,B⟩
 |.exit id,c,F,S,g,a,w,Q,hL,h,y,G,E=>by
  cases c<;>simp only[codeOk,beq_iff_eq,BJ]at y;subst y;exact wp_exit ⟨.x _,F,S,g,rfl,hL,h,E⟩
 |.ret,c,F,S,g,a,w,Q,hL,h,y,G,E=>by
  cases c<;>simp[codeOk]at y;exact wp_ret ⟨.r,F,S,g,rfl,hL,h,E⟩
 |.scope b,c,F,S,g,a,w,Q,hL,h,y,G,E=>by
  cases c with
  |scope c=>
   simp only[codeOk]at y;refine wp_scope_straight (wp_mono (Eg hA hRn b _ F S g a w _ hL h y (λp H=>G p (by simpa[Ef] using H)) E) ?_);rintro e a' w' ⟨L,F',S',g',rfl,hL',I,B⟩;cases L<;>exact⟨_,F',S',g',rfl,hL',I,B⟩
  |cond co tc ec=>
   cases co with
   |const v=>
    cases v with
    |bool t=>
     cases t with
     |true=>
      simp only[codeOk]at y;exact wp_cond (t:=true) rfl (Eg hA hRn b _ F S g a w _ hL h y (λp H=>G p (by simpa[Ef] using H)) E)
     |false=>
      simp only[codeOk]at y;exact wp_cond (t:=false) rfl (Eg hA hRn b _ F S g a w _ hL h y (λp H=>G p (by simpa[Ef] using H)) E)
    |_=>simp[codeOk]at y
   |_=>simp[codeOk]at y
  |_=>simp[codeOk]at y
 |.or p q,c,F,S,g,a,w,Q,hL,h,y,G,E=>by
  have J:codeOk F0.P F0.N c p=true/\codeOk F0.P F0.N c q=true:=by
   cases c<;>first|(simpa[codeOk] using y)|skip
   all_goals (rename_i co _ _;cases co<;>first|(simpa[codeOk] using y)|skip)
   all_goals (rename_i v;cases v<;>first|(simpa[codeOk] using y)|skip)
   all_goals (rename_i t;cases t<;>simpa[codeOk] using y)
  have X:∀x,x∈Ef c p\/x∈Ef c q->Mt F0.A F0.P x.1 x.2:=by
   intro x hx;refine G x ?_;have:Ef c (.or p q)=Ef c p++Ef c q:=by
    cases c<;>first|rfl|skip
    all_goals (rename_i co _ _;cases co<;>first|rfl|skip)
    all_goals (rename_i v;cases v<;>first|rfl|skip)
    all_goals (rename_i t;cases t<;>rfl)
   rw[this];exact Bs.2 hx
  rcases E with E|E
  .exact Eg hA hRn p c F S g a w Q hL h J.1 (λx hx=>X x (.inl hx)) E
  .exact Eg hA hRn q c F S g a w Q hL h J.2 (λx hx=>X x (.inr hx)) E
 |.dead,c,F,S,g,a,w,Q,hL,h,y,G,E=>E.elim|.Ty xa xb FD d p c e,cd,F,S,g,a,w,Q,hL,h,y,G,E=>by
  cases cd<;>simp only[codeOk,AF,A8,BJ]at y;obtain⟨⟨rfl,y⟩,H⟩:=y;obtain⟨hP,hFA,hN,_,_⟩:=hL.P;rw[<-hP,<-hN]at y;rw[<-hP,<-hFA]at G;have:=AXn h H y G E;rw[hP]at this;refine wp_mono (wp_region_list this) ?_;rintro _ a' w' ⟨rfl,S',g',I,Z,ks,B⟩;exact⟨.n,F,_,g',rfl,hL,(I.see Z).clean ks,B⟩
end Lv
