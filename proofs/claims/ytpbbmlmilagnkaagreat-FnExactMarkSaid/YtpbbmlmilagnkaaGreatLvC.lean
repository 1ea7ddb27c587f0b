/- The light machine is right about the program's code. -/
import Derived.Test.YtpbbmlmilagnkaaGreatLvB
import Derived.Laws.AppendOwn
import Derived.IntWalk
import Derived.MapKept
import Derived.WideLaws
set_option linter.unusedVariables false
set_option linter.unusedSimpArgs false
set_option linter.unusedSectionVars false
open Array renaming getElem?_eq_getElem->FF,getElem?_eq_some_iff->Aj,getElem?_toList->Cc,length_toList->BC,toList_inj->Bd
open Bool renaming and_eq_true->AD,false_eq_true->A7
open List.cons renaming injEq->B0
open List renaming drop_eq_nil_of_le->A1,getElem?_append_left->Ar,getElem?_append_right->An,getElem?_cons_succ->Be,getElem?_cons_zero->AI,getElem?_eq_getElem->Ad,getElem?_eq_none->Cd,getElem?_eq_some_iff->AJ,getElem?_of_mem->BE,getElem?_toArray->A0,length_cons->AM,length_nil->AQ,map_cons->AF,map_nil->A6,map_toArray->Cs,mem_append->B8,mem_map->DC,mem_of_getElem?->AX,size_toArray->Am,take_of_length_le->As
open Nat renaming add_mul->A3,add_zero->CO,div_add_mod->Ec,div_lt_iff_lt_mul->CC,eq_zero_or_pos->G7,le_refl->AT,lt_of_lt_of_le->Az,min_eq_left->C1,mod_lt->DR,mul_comm->EW,mul_le_mul_right->AV,mul_one->HR,ne_of_gt->G9,one_mul->Cl,zero_add->Ai
open Option renaming bind_some->Hj,isNone_iff_eq_none->Ds,map_eq_some_iff->AG,map_none->F5,map_some->Ab
open Option.some renaming injEq->AB
open Prod.mk renaming injEq->Ag
namespace Lv
open Go
section
variable{P:Program}{w:World}
structure K0(P:Program)(w:World)(size:Nat)(x:Value)(n:Nat)(news:List Value):Prop where
 len:∀w',(Builtin.lenOf x).run P w'=.ok n w'
 first:(Builtin.firstCells size n x).run P w=.ok news.toArray w
 drew:(Builtin.firstCells size n x).run P w.drew=.ok news.toArray w.drew
theorem gv{t u ty el:TypeId}{i:TypeInfo}{d:TypeDesc}{x:Value}{n:Nat}{news:List Value}{b o sLen sCap:Nat}{cur:Array Value}{E:TypeId}(ht:P.underlying t=some (.slice el))(hi:P.info? el=some i)
 (hu:P.underlying u=some d) (hd:d=.string\/∃e',d=.slice e') (hx:K0 P w i.size x n news) (hroom:sLen+n<=sCap) {e:Nat} (hr:D7 w b cur E e) (hfit:o+sLen*i.size+news.length<=cur.size) (h1:∀v∈news,v.oneCell'=true) :
 (Builtin.append_ #[t,u] ty #[.slice (some ⟨b,o,none⟩) sLen sCap,x]).run P w =
  .ok (.slice (some ⟨b,o,none⟩) (sLen+n) sCap) (w.setRow b (cur.toList.take (o+sLen*i.size)++news++cur.toList.drop (o+sLen*i.size+news.length)).toArray):=by
 have hl:=hx.len w;have hf:=hx.first
 have hst:=EG (P:=P) hr hfit h1;have hsz:=Fv (P:=P) (w:=w) hi;unfold Builtin.append_;simp only[Am,AM,AQ,Ai,Nat.reduceAdd,A0,AI,Be];generalize Builtin.lenOf=L at hl ⊢;generalize Builtin.firstCells=F at hf ⊢;rcases hd with rfl|⟨e',rfl⟩<;>simp[run_underlying ht,run_underlying hu,hsz,hl,hf,hroom,FE,hst,go_sem]
def Ev(w:World)(E:TypeId)(cells:Array Value):World:=w.drew.alloc (.cells cells E)
theorem gq{t u ty el:TypeId}{i:TypeInfo}{z:Value}{d:TypeDesc}{x:Value}{n:Nat}{news olds:List Value}{ad:Option Addr}{sLen sCap:Nat}(ht:P.underlying t=some (.slice el))(hi:P.info? el=some i)(hz:i.zero=some z)
 (hu:P.underlying u=some d) (hd:d=.string\/∃e',d=.slice e') (hx:K0 P w i.size x n news) (ho:K0 P w i.size (.slice ad sLen sCap) sLen olds) (hroom:sCap<sLen+n) (hb0:0<i.bytes) (hfit:Builtin.nextslicecap (sLen+n) sCap*i.bytes<=281474976710656) :
 (Builtin.append_ #[t,u] ty #[.slice ad sLen sCap,x]).run P w =
  .ok (.slice (some ⟨w.heap.size,0,none⟩) (sLen+n) (grownCap w (sLen+n) sCap el)) (Ev w el (olds.toArray++news.toArray++Builtin.zeroCells z.cells (grownCap w (sLen+n) sCap el-(sLen+n)))):=by
 have hl:=hx.len w;have hf:=hx.drew;have hf2:=ho.drew;have hsz:=Fv (P:=P) (w:=w) hi;have hroom':¬(sLen+n<=sCap):=by omega
 have hfit':¬(281474976710656<Builtin.nextslicecap (sLen+n) sCap*i.bytes):=by omega
 unfold Builtin.append_;simp only[Am,AM,AQ,Ai,Nat.reduceAdd,A0,AI,Be];have e:∀Z:Array Value,olds.toArray++(news.toArray++Z)=(olds++news).toArray++Z:=by intro Z;rw[<-Array.append_assoc];simp
 generalize Builtin.lenOf=L at hl ⊢;generalize Builtin.firstCells=F at hf hf2 ⊢;rcases hd with rfl|⟨e',rfl⟩<;>simp[run_underlying ht,run_underlying hu,hsz,hl,hroom',typeInfo,hi,hfit',hf,hf2,G9 hb0,Question.forced,zeroValue,hz,newRow,grownCap,Ev,e,go_sem]
theorem o8{t u ty el:TypeId}{i:TypeInfo}{d:TypeDesc}{x:Value}(ht:P.underlying t=some (.slice el))(hi:P.info? el=some i)
 (hu:P.underlying u=some d) (hd:d=.string\/∃e',d=.slice e') (hx:K0 P w i.size x 0 []) :
 (Builtin.append_ #[t,u] ty #[.slice none 0 0,x]).run P w=.ok (.slice none 0 0) w:=by
 have hl:=hx.len w;have hf:=hx.first
 have hsz:=Fv (P:=P) (w:=w) hi;unfold Builtin.append_;simp only[Am,AM,AQ,Ai,Nat.reduceAdd,A0,AI,Be];generalize Builtin.lenOf=L at hl ⊢;generalize Builtin.firstCells=F at hf ⊢;rcases hd with rfl|⟨e',rfl⟩<;>simp[run_underlying ht,run_underlying hu,hsz,hl,hf,go_sem]
structure MH(P:Program)(w:World)(t u ty el:TypeId)(e:Nat)(y:Value)(n:Nat)(news:List Value):Prop where
 room:∀{b o sLen sCap:Nat} {cur:Array Value} {E:TypeId},sLen+n<=sCap->D7 w b cur E e->o+sLen*e+news.length<=cur.size->(∀v∈news,v.oneCell'=true) ->
  (Builtin.append_ #[t,u] ty #[.slice (some ⟨b,o,none⟩) sLen sCap,y]).run P w =
   .ok (.slice (some ⟨b,o,none⟩) (sLen+n) sCap) (w.setRow b (cur.toList.take (o+sLen*e)++news++cur.toList.drop (o+sLen*e+news.length)).toArray)
 grow:∀{i:TypeInfo} {z:Value} {olds:List Value} {ad:Option Addr} {sLen sCap:Nat},P.info? el=some i->i.zero=some z->i.size=e->K0 P w e (.slice ad sLen sCap) sLen olds->sCap<sLen+n->0<i.bytes->Builtin.nextslicecap (sLen+n) sCap*i.bytes<=281474976710656->sLen+n<=lim ->
  (Builtin.append_ #[t,u] ty #[.slice ad sLen sCap,y]).run P w =
   .ok (.slice (some ⟨w.heap.size,0,none⟩) (sLen+n) (grownCap w (sLen+n) sCap el)) (Ev w el (olds.toArray++news.toArray++Builtin.zeroCells z.cells (grownCap w (sLen+n) sCap el-(sLen+n))))
 nil:n=0->news=[]->(Builtin.append_ #[t,u] ty #[.slice none 0 0,y]).run P w=.ok (.slice none 0 0) w
theorem K0.app{t u ty el:TypeId}{i:TypeInfo}{d:TypeDesc}{y:Value}{n:Nat}{news:List Value}{e:Nat}(h:K0 P w e y n news)(ht:P.underlying t=some (.slice el))(hi:P.info? el=some i)(he:i.size=e)
 (hu:P.underlying u=some d) (hd:d=.string\/∃e',d=.slice e'):MH P w t u ty el e y n news:=by
 subst he;refine⟨fun h1 h2 h3 h4=>gv ht hi hu hd h h1 h2 h3 h4,?_,?_⟩
 .grind[gq]
 grind[o8]
theorem pk{t u ty el:TypeId}{i:TypeInfo}{z:Value}{k0 k:IntKind}{m:Int}(ht:P.underlying t=some (.slice el))(hi:P.info? el=some i)(hz:i.zero=some z)(hu:P.underlying u=some (.int k0))(h0:0<=m)(h1:m<=lim)(hb:i.bytes<=65536)(hs:0<i.size)(hzs:z.cells.size=i.size) :
 MH P w t u ty el i.size (.int k m) m.toNat (Builtin.zeroCells z.cells m.toNat).toList:=by
 have hlim:(lim:Int)=268435456:=rfl;have hw:IntKind.i64.wrap m=m:=Go.IntWalk.i64_in m (by omega);have hm:((m.toNat:Nat):Int)=m:=by omega
 have hbig:¬(m*(i.bytes:Int)>281474976710656):=by
  have:m*(i.bytes:Int)<=268435456*65536:=Int.mul_le_mul (by omega) (by omega) (by omega) (by omega);omega
 have hsz:∀w:World,(Go.sizeOf el).run P w=.ok i.size w:=fun w=>Fv (P:=P) (w:=w) hi
 have hti:∀w:World,(typeInfo el).run P w=.ok i w:=fun w=>by simp[typeInfo,hi,go_sem]
 have hzv:∀w:World,(zeroValue el).run P w=.ok z w:=fun w=>by simp[zeroValue,typeInfo,hi,hz,go_sem]
 have hneg:¬m<0:=by omega
 have hzz:m.toNat*i.size=0->Builtin.zeroCells z.cells m.toNat=#[]:=by
  intro h;apply Array.eq_empty_of_size_eq_zero;simp[Builtin.zeroCells,hzs,h]
 have happ:∀w:World,(if m.toNat*i.size=0 then pure #[] else do pure (Builtin.zeroCells (<-zeroValue el).cells m.toNat):Sem (Array Value)).run P w=.ok (Builtin.zeroCells z.cells m.toNat) w:=by
  intro w;split
  .rename_i h;rw[hzz h];rfl
  .simp[hzv,go_sem]
 refine⟨?_,?_,?_⟩
 .intro b o sLen sCap cur E h1 h2 h3 h4;have hst:=EG (P:=P) h2 h3 h4;unfold Builtin.append_;simp only[Am,AM,AQ,Ai,Nat.reduceAdd,A0,AI,Be];by_cases hz0:m.toNat*i.size=0
  .rw[hzz hz0]at hst ⊢;have hst':Result.ok () w=Result.ok () (w.setRow b (cur.toList.take (o+sLen*i.size)++[]++cur.toList.drop (o+sLen*i.size+([]:List Value).length)).toArray):=hst;have hst2:=(Result.ok.inj hst').2;generalize Builtin.zeroCells=Z;simp[run_underlying ht,run_underlying hu,hsz,hti,asInt,hw,hneg,hbig,h1,hz0,FE,go_sem];simp at hst2;exact hst2
  .generalize Builtin.zeroCells=Z at hst ⊢;generalize Value.cells=C at hst ⊢;simp[run_underlying ht,run_underlying hu,hsz,hti,asInt,hw,hneg,hbig,h1,hz0,FE,hzv,go_sem];simp[hst,go_sem]
 .intro i' z' olds ad sLen sCap g1 g2 g3 g4 g5 g6 g7 g8;rw[hi]at g1;cases g1;rw[hz]at g2;cases g2;have hf2:=g4.drew;have hroom':¬(sLen+m.toNat<=sCap):=by omega
  have hfit':¬(281474976710656<Builtin.nextslicecap (sLen+m.toNat) sCap*i.bytes):=by omega
  have hneed:¬(9223372036854775807<(sLen:Int)+max m 0):=by
   have:lim=268435456:=rfl;omega
  unfold Builtin.append_;simp only[Am,AM,AQ,Ai,Nat.reduceAdd,A0,AI,Be];by_cases hz0:m.toNat*i.size=0
  .rw[hzz hz0];generalize Builtin.firstCells=F at hf2 ⊢;generalize Builtin.zeroCells=Z;generalize Value.cells=C;simp[run_underlying ht,run_underlying hu,hsz,hti,asInt,hw,hneg,hbig,hroom',hfit',hneed,hz0,go_sem];simp[hf2,hzv,newRow,grownCap,Ev,Question.forced,G9 g6,go_sem]
  .generalize Builtin.firstCells=F at hf2 ⊢;generalize Builtin.zeroCells=Z;generalize Value.cells=C;simp[run_underlying ht,run_underlying hu,hsz,hti,asInt,hw,hneg,hbig,hroom',hfit',hneed,hz0,go_sem];simp[hf2,hzv,newRow,grownCap,Ev,Question.forced,G9 g6,go_sem]
 .intro h1 h2;unfold Builtin.append_;simp only[Am,AM,AQ,Ai,Nat.reduceAdd,A0,AI,Be];have hm0:m=0:=by omega
  subst hm0;simp[run_underlying ht,run_underlying hu,hsz,hti,asInt,hw,go_sem]
end
structure Bo(w:World)(e:Nat)(ys:List (List T))(c:Nat->Nat->Value)(f:Nat->Nat->Blk)(vs:List Value):Prop where
 len:vs.length=ys.length*e
 row:∀row∈ys,row.length=e
 cell:∀i j x,at2 ys i j=some x->vs[i*e+j]?=some (c i j)/\Own w x (c i j) (f i j)
 dis:∀i j x i' j' x',at2 ys i j=some x->at2 ys i' j'=some x'->(i=i'->j≠j')->∀b,f i j b->¬f i' j' b
theorem J2{xs:List (List T)}{e i j:Nat}(hr:∀row∈xs,row.length=e)(hi:i<xs.length)(hj:j<e):∃x,at2 xs i j=some x:=by
 unfold at2;rw[Ad hi];have:=hr xs[i] (List.getElem_mem hi);exact⟨_,Ad (by omega)⟩
theorem Bo.one{w:World}{e:Nat}{ys:List (List T)}{c:Nat->Nat->Value}{f:Nat->Nat->Blk}{vs:List Value}(h:Bo w e ys c f vs):∀v∈vs,v.oneCell'=true:=by
 intro v hv;obtain⟨k,hk⟩:=BE hv;have hlt:k<vs.length:=(AJ.1 hk).1;rw[h.len]at hlt;have he:0<e:=by
  grind[Nat.eq_zero_or_pos]
 have hi:k / e<ys.length:=(CC he).2 hlt;have hj:k % e<e:=DR _ he;obtain⟨x,hx⟩:=J2 h.row hi hj;obtain⟨h1,h2⟩:=h.cell _ _ _ hx;rw[EW,Ec,hk]at h1;cases h1;exact h2.one
theorem Bo.nil{w:World}{e:Nat}:Bo w e [] (fun _ _=>undef) (fun _ _ _=>False) []:=
 ⟨by simp,by simp,by intro i j x hx;simp[at2]at hx,by intro i j x i' j' x' hx;simp[at2]at hx⟩
theorem Bo.read{w:World}{e:Nat}{ys:List (List T)}{c:Nat->Nat->Value}{f:Nat->Nat->Blk}(hr:∀row∈ys,row.length=e)(ho:∀i j x,at2 ys i j=some x->Own w x (c i j) (f i j))
 (hd:∀i j x i' j' x',at2 ys i j=some x->at2 ys i' j'=some x'->(i=i'->j≠j')->∀b,f i j b->¬f i' j' b) :
 Bo w e ys c f ((List.range (ys.length*e)).map fun k=>c (k / e) (k % e)):=by
 refine⟨by simp,hr,?_,hd⟩;intro i j x hx;refine⟨?_,ho i j x hx⟩;have hi:=cz hx;have hj:=Ka hx hr;have hlt:i*e+j<ys.length*e:=by
  have:(i+1)*e<=ys.length*e:=AV _ hi
  grind[Nat.add_mul]
 grind[List.getElem?_range,Option.some.injEq,Nat.mul_comm,Nat.mul_add_div,Nat.div_eq_of_lt,Nat.mul_add_mod,Nat.mod_eq_of_lt]
theorem Jx{P:Program}{w:World}{e:Nat}{ys:List (List T)}{c:Nat->Nat->Value}{f:Nat->Nat->Blk}{vs:List Value}{blk off cap:Nat}(h:Bo w e ys c f vs)
 (hc:∀i j x,at2 ys i j=some x->w.cell? ⟨blk,off+i*e+j,none⟩=some (c i j)):K0 P w e (.slice (some ⟨blk,off,none⟩) ys.length cap) ys.length vs:=by
 have hcell:∀j v,vs[j]?=some v->w.cell? ((⟨blk,off,none⟩:Addr).add j)=some v:=by
  intro k v hk;have hlt:k<vs.length:=(AJ.1 hk).1;rw[h.len]at hlt;have he:0<e:=by
   grind[Nat.eq_zero_or_pos]
  obtain⟨x,hx⟩:=J2 h.row ((CC he).2 hlt) (DR k he);obtain⟨h1,_⟩:=h.cell _ _ _ hx
  grind[Nat.mul_comm,Nat.div_add_mod,Nat.add_assoc,FE]
 refine⟨fun w'=>by simp[Builtin.lenOf],run_firstCells_some (P:=P) w e ys.length ⟨blk,off,none⟩ _ cap vs h.len hcell,?_⟩;refine run_firstCells_some (P:=P) w.drew e ys.length ⟨blk,off,none⟩ _ cap vs h.len ?_;intro j v hv;exact hcell j v hv
theorem ABM{P:Program}{w:World}{e:Nat}{xs:List (List T)}{v:Value}{fp:Blk}(h:Own w (.sl e xs) v fp) :
 ∃c f vs,Bo w e xs c f vs/\K0 P w e v xs.length vs/\∀i j x b,at2 xs i j=some x->f i j b->fp b:=by
 cases h with
 |sc h _ _=>exact h.elim|nl=>
  exact⟨fun _ _=>undef,fun _ _ _=>False,[],⟨by simp,by simp,by simp[at2],by simp[at2]⟩,⟨fun w'=>by simp[Builtin.lenOf],run_firstCells_none ..,run_firstCells_none ..⟩,by simp⟩
 |sl c f h1 h2 h3 h4 h5 h6 h7 h8 h9 h10=>
  subst h1;refine⟨c,f,_,Bo.read h3 h7 h9,Jx (Bo.read h3 h7 h9) ?_,?_⟩
  .intro i j x hx;rw[h4.cell];exact h6 i j x hx
  grind
theorem MR{xs:List (List T)}(h:E3 xs=true){i j:Nat}{x:T}(hx:at2 xs i j=some x):flat x=true:=by
 unfold at2 at hx;split at hx
 .rename_i row hrow;simp only[E3,List.all_eq_true]at h;exact h row (AX hrow) x (AX hx)
 .cases hx
theorem Jz{w:World}{B:Blk}{x:T}{v:Value}(h:View w B x v)(hf:flat x=true):Own w x v (fun _=>False):=by
 cases h with
 |sc hs=>exact .sc hs (hs.one (by cases x<;>first|rfl|simp[flat]at hf)) (by simp)
 |sl=>simp[flat]at hf|nl=>simp[flat]at hf|mp=>simp[flat]at hf
theorem ZT{P:Program}{w:World}{B:Blk}{e:Nat}{xs:List (List T)}{v:Value}(h:View w B (.sl e xs) v)(hf:E3 xs=true) :
 ∃c vs,Bo w e xs c (fun _ _ _=>False) vs/\K0 P w e v xs.length vs:=by
 cases h with
 |sc h=>exact h.elim|nl=>
  refine⟨fun _ _=>undef,[],⟨by simp,by simp,by simp[at2],by simp[at2]⟩,fun w'=>by simp[Builtin.lenOf],run_firstCells_none ..,run_firstCells_none ..⟩
 |@sl _ _ a len cap c h1 h2 h3 h4 h5 h6=>
  subst h1;have hC:Bo w e xs c (fun _ _ _=>False) _:=Bo.read h3 (fun i j x hx=>Jz (h6 i j x hx) (MR hf hx)) (by simp);refine⟨c,_,hC,?_⟩;by_cases hx:xs=[]
  .subst hx;have hl:((List.range (([]:List (List T)).length*e)).map fun k=>c (k / e) (k % e))=[]:=by simp
   rw[hl];refine⟨fun w'=>by simp[Builtin.lenOf],?_,?_⟩
   .exact run_firstCells_some (P:=P) w e 0 a 0 cap [] (by simp) (by simp)
   .exact run_firstCells_some (P:=P) w.drew e 0 a 0 cap [] (by simp) (by simp)
  .obtain⟨hs,_⟩:=h4 hx;obtain⟨blk,off,sp⟩:=a;dsimp only at hs;subst hs;exact Jx hC h5
theorem P8{xs ys:List (List T)}{i j:Nat}{x:T}(h:at2 (xs++ys) i j=some x):(i<xs.length/\at2 xs i j=some x)\/(xs.length<=i/\at2 ys (i-xs.length) j=some x):=by
 grind[at2,List.getElem?_append_left,List.getElem?_append_right]
theorem Bo.app{w:World}{e:Nat}{xs ys:List (List T)}{c c':Nat->Nat->Value}{f f':Nat->Nat->Blk}{vs us:List Value}(h:Bo w e xs c f vs)(h':Bo w e ys c' f' us)
 (hd:∀i j x i' j' x' b,at2 xs i j=some x->at2 ys i' j'=some x'->f i j b->¬f' i' j' b) :
 Bo w e (xs++ys) (fun i j=>if i<xs.length then c i j else c' (i-xs.length) j) (fun i j=>if i<xs.length then f i j else f' (i-xs.length) j) (vs++us):=by
 refine⟨by simp[h.len,h'.len,A3],?_,?_,?_⟩
 .intro row hr;rcases B8.1 hr with hr|hr
  .exact h.row row hr
  .exact h'.row row hr
 .intro i j x hx;rcases P8 hx with ⟨hi,hx⟩|⟨hi,hx⟩
  .simp only[if_pos hi];obtain⟨h1,h2⟩:=h.cell i j x hx;refine⟨?_,h2⟩;rw[Ar (AJ.1 h1).1];exact h1
  .simp only[if_neg (by omega:¬i<xs.length)];obtain⟨h1,h2⟩:=h'.cell _ j x hx;refine⟨?_,h2⟩;have:i*e+j=vs.length+((i-xs.length)*e+j):=by
    rw[h.len];have:i*e=xs.length*e+(i-xs.length)*e:=by rw[<-A3];congr 1;omega
    omega
   rw[this,An (by omega),Nat.add_sub_cancel_left];exact h1
 .intro i j x i' j' x' hx hx' hne b;rcases P8 hx with ⟨hi,hx⟩|⟨hi,hx⟩<;>rcases P8 hx' with ⟨hi',hx'⟩|⟨hi',hx'⟩
  .simp only[if_pos hi,if_pos hi'];exact h.dis i j x i' j' x' hx hx' hne b
  .simp only[if_pos hi,if_neg (by omega:¬i'<xs.length)];exact hd _ _ _ _ _ _ b hx hx'
  .simp only[if_neg (by omega:¬i<xs.length),if_pos hi'];exact fun hb hb'=>hd _ _ _ _ _ _ b hx' hx hb' hb
  .simp only[if_neg (by omega:¬i<xs.length),if_neg (by omega:¬i'<xs.length)];exact h'.dis _ j x _ j' x' hx hx' (by intro hh;exact hne (by omega)) b
theorem Bo.own{w w':World}{e:Nat}{ys:List (List T)}{c:Nat->Nat->Value}{f:Nat->Nat->Blk}{vs:List Value}(h:Bo w e ys c f vs){blk off cap:Nat}{arr:Array Value}{E:TypeId}
 (hr:D7 w' blk arr E e) (hcap:ys.length<=cap) (hsz:off+cap*e<=arr.size) (hat:∀k v,vs[k]?=some v->arr[off+k]?=some v) (hnb:∀i j x,at2 ys i j=some x->¬f i j blk)
 (hw:∀i j x b,at2 ys i j=some x->f i j b->w'.heap[b]?=w.heap[b]?) :
 Own w' (.sl e ys) (.slice (some ⟨blk,off,none⟩) ys.length cap) (fun b=>b=blk\/∃i j x,at2 ys i j=some x/\f i j b):=by
 refine .sl c f rfl hcap h.row hr hsz ?_ ?_ hnb h.dis (fun _=>Iff.rfl)
 .intro i j x hx;have:=hat _ _ (h.cell i j x hx).1;rw[<-this];congr 1;omega
 .intro i j x hx;exact(h.cell i j x hx).2.frame fun b hb=>hw i j x b hx hb
section
variable{F:Fix}{S S' S1:St}{g g':Gh}{a a':Act}{w w':World}
theorem ALJ(h:Inv F S g a w){l:AN}{v:Value}(hl:BR F S g w (fun _=>False) l v){e:Nat}{fl:Bool}{ys:List (List T)}(hs:LB e fl S l=some (S1,ys)) :
 LF F S S1 g a w/\∃c f vs,Bo w e ys c f vs/\K0 F.P w e v ys.length vs /\
  (∀i j x b,at2 ys i j=some x->f i j b->¬F.K b/\(∀r,Bl S1 r->¬g.fp r b)/\∀id,(get S.bx id).isSome->b≠g.β id):=by
 have same:LF F S S g a w:=⟨h,fun _ _ h=>h,fun _ h=>h,rfl⟩;have nilsrc:∀{e},K0 F.P w e (.slice none 0 0) ([]:List (List T)).length []:=fun {e}=>
  ⟨fun w'=>by simp[Builtin.lenOf],by simp[Builtin.firstCells],by simp[Builtin.firstCells]⟩
 match l,hl with
 |.t x,hl=>
  cases x with
  |str s=>
   simp only[LB]at hs;split at hs
   .rename_i he;cases hs;subst he;have hv:v=.string ⟨s.toArray⟩:=hl;have hC:Bo w 1 (HV s) (fun i _=>((s.map fun b=>Value.int .u8 b.toNat)[i]?).getD undef) (fun _ _ _=>False) (s.map fun b=>Value.int .u8 b.toNat):=by
     refine⟨by simp[HV],?_,?_,by simp⟩
     .intro row hr;simp only[HV,DC]at hr;obtain⟨_,_,rfl⟩:=hr;rfl
     .intro i j x hx;obtain⟨b,hb,rfl,rfl⟩:=Z6 hx;simp only[HR,CO,List.getElem?_map,hb,Ab,Option.getD_some,true_and];exact .sc rfl rfl (by simp)
    refine⟨same,_,_,_,hC,⟨fun w'=>?_,?_,?_⟩,fun _ _ _ _ _ hb=>hb.elim⟩
    .rw[hv];simp[Builtin.lenOf,HV,ByteArray.size]
    .rw[hv];simp[Builtin.firstCells,HV,ByteArray.data_extract]
    .rw[hv];simp[Builtin.firstCells,HV,ByteArray.data_extract]
   .cases hs
  |nil=>
   simp only[LB,AB,Ag]at hs;obtain⟨rfl,rfl⟩:=hs;have hv:v=.slice none 0 0:=hl;subst hv;exact⟨same,_,_,_,Bo.nil,nilsrc,fun _ _ _ _ _ hb=>hb.elim⟩
  |_=>simp[LB]at hs
 |.vw s e' xs,hl=>
  simp only[LB]at hs;split at hs
  .rename_i hc;obtain⟨rfl,hf⟩:=hc;simp only[AB,Ag]at hs;obtain⟨rfl,rfl⟩:=hs;obtain⟨B,hV⟩:∃B,View w B (.sl e' xs) v:=by
    cases s with
    |own r p=>obtain⟨_,⟨S0,_,hO⟩,_⟩:=hl;exact⟨_,hO.view⟩
    |old k=>exact⟨_,hl⟩
   obtain⟨c,vs,hC,hS⟩:=ZT (P:=F.P) hV hf;exact⟨same,c,_,vs,hC,hS,fun _ _ _ _ _ hb=>hb.elim⟩
  .cases hs
 |.al r sub,⟨x,u,h1,h2,h3⟩=>
  simp only[LB,h1]at hs;obtain⟨u',hu',hown⟩:=h.CL r _ h1;rw[h2]at hu';cases hu';obtain⟨S0,hS0,hO⟩:=Mk hown h3;split at hs
  .rename_i xs hcx;split at hs
   .rename_i he;have hout:LF F S (S.out r) g a w:=⟨h.out h1,fun r' y hy=>Yj h1 hy,fun id hid=>TD hid,gW⟩;have cells:∃c f vs,Bo w e (HD sub xs) c f vs/\K0 F.P w e v (HD sub xs).length vs/\∀i j x b,at2 (HD sub xs) i j=some x->f i j b->S0 b:=by
     cases x with
     |sl e' zs=>
      simp only[content,AB]at hcx;subst hcx;simp only[eOf,beq_iff_eq]at he;subst he;exact ABM (P:=F.P) hO
     |nil=>
      simp only[content,AB]at hcx;subst hcx;have hsub:HD sub ([]:List (List T))=[]:=by cases sub with|none=>rfl|some p=>simp[HD]
      have hv:v=.slice none 0 0:=by
       cases hO with
       |sc hs _ _=>exact hs
      subst hv;rw[hsub];exact⟨_,_,_,Bo.nil,nilsrc,fun _ _ _ _ _ hb=>hb.elim⟩
     |_=>simp[content]at hcx
    split at hs
    .by_cases hf:E3 (HD sub xs)=true
     case neg=>rw[if_neg hf]at hs;cases hs
     rw[if_pos hf]at hs;cases hs;obtain⟨c,f,vs,hC,hS,hsub⟩:=cells;have hC':Bo w e (HD sub xs) c (fun _ _ _=>False) vs:=
      ⟨hC.len,hC.row,fun i j x hx=>⟨(hC.cell i j x hx).1,Jz (hC.cell i j x hx).2.view (MR hf hx)⟩,by simp⟩
     exact⟨same,c,_,vs,hC',hS,fun _ _ _ _ _ hb=>hb.elim⟩
    .cases hs;obtain⟨c,f,vs,hC,hS,hsub⟩:=cells;refine⟨hout,c,f,vs,hC,hS,fun i j x b hx hb=>?_⟩;have hb:=hS0 b (hsub i j x b hx hb);refine⟨h.Fa r ⟨_,h1⟩ b hb,fun r' hr' hb'=>?_,fun id hid hb'=>?_⟩
     .obtain⟨hne,hal⟩:=G2 h1 hr';exact h.dis r r' ⟨_,h1⟩ hal (Ne.symm hne) b hb hb'
     .subst hb';exact h.EO r id ⟨_,h1⟩ hid hb
   .cases hs
  .cases hs
 |.und,_=>simp[LB]at hs|.ow _,_=>simp[LB]at hs|.ep _ _ _,_=>simp[LB]at hs|.vp _ _,_=>simp[LB]at hs|.bp _ _,_=>simp[LB]at hs|.fn _ _,_=>simp[LB]at hs
end
theorem AI0{P:Program}{w:World}{e:Nat}{xs:List (List T)}{v:Value}{fp:Blk}(h:Own w (.sl e xs) v fp) :
 (v=.slice none 0 0/\xs=[])\/∃c f vs blk off cap arr E,v=.slice (some ⟨blk,off,none⟩) xs.length cap/\xs.length<=cap/\D7 w blk arr E e/\off+cap*e<=arr.size/\Bo w e xs c f vs/\K0 P w e v xs.length vs /\
  (∀k u,vs[k]?=some u->arr[off+k]?=some u)/\fp blk/\∀i j x b,at2 xs i j=some x->f i j b->fp b/\b≠blk:=by
 cases h with
 |sc h _ _=>exact h.elim|nl=>exact .inl ⟨rfl,rfl⟩|@sl _ _ blk off len cap arr E _ c f h1 h2 h3 h4 h5 h6 h7 h8 h9 h10=>
  subst h1;have hC:=Bo.read h3 h7 h9;refine .inr ⟨c,f,_,blk,off,cap,arr,E,rfl,h2,h4,h5,hC,Jx hC ?_,?_,(h10 _).2 (.inl rfl),?_⟩
  .intro i j x hx;rw[h4.cell];exact h6 i j x hx
  .intro k u hk;have hlt:k<xs.length*e:=by
    have:=(AJ.1 hk).1
    rwa[hC.len]at this
   have he:0<e:=by
    rcases G7 e with h0|h0
    .subst h0;simp at hlt
    .exact h0
   obtain⟨x,hx⟩:=J2 h3 ((CC he).2 hlt) (DR k he);obtain⟨q1,_⟩:=hC.cell _ _ _ hx
   grind[Nat.mul_comm,Nat.div_add_mod,Nat.add_assoc]
  .intro i j x b hx hb;exact⟨(h10 b).2 (.inr ⟨i,j,x,hx,hb⟩),fun he=>h8 i j x hx (he▸hb)⟩
section
variable{F:Fix}{S S' S1 S2:St}{g g':Gh}{a a':Act}{w w':World}
theorem Inv.quiet(h:Inv F S g a w)(hs:Still w w')(hw:∀b,b<w.heap.size->(F.K b\/(∃r,Bl S r/\g.fp r b)\/∃id,(get S.bx id).isSome/\b=g.β id)->w'.heap[b]?=w.heap[b]?):Inv F S g a w':=by
 have hR:∀b,F.K b->w'.heap[b]?=w.heap[b]?:=fun b hb=>hw b (Az (h.rlt b hb) h.size) (.inl hb)
 have hfp:∀r,Bl S r->∀b,g.fp r b->w'.heap[b]?=w.heap[b]?:=by
  intro r hr b hb;obtain⟨x,hx⟩:=hr;obtain⟨v,_,hok⟩:=h.CL r _ hx;exact hw b (Own.lt hok b hb) (.inr (.inl ⟨r,⟨x,hx⟩,hb⟩))
 refine { CL:=?_,tms:=h.tms,bxs:=?_,dis:=h.dis,EO:=h.EO,Fa:=h.Fa,E8:=h.E8,bxR:=h.bxR,EM:=?_,rlt:=h.rlt,still:=h.still.trans hs,defs:=h.defs,tsz:=h.tsz,pin:=h.pin}
 .intro r l hl;obtain⟨v,hv,hok⟩:=h.CL r l hl;by_cases how:∃x,l=.ow x
  .obtain⟨x,rfl⟩:=how;exact⟨v,hv,Own.frame hok (hfp r ⟨x,hl⟩)⟩
  .have hn:∀x,l≠.ow x:=fun x hx=>how ⟨x,hx⟩
   exact⟨v,hv,BR.any hn ((BR.any (fp':=fun _=>False) hn hok).tr (S':=S) (g':=g) (w':=w') (fun r1 hr1=>⟨rfl,rfl,fun _ h=>h,hfp r1 (hok.alive hr1)⟩) (fun _ _=>rfl) (fun _ h=>h.elim) hR)⟩
 .intro id ls hl;obtain⟨⟨E,hE⟩,h2⟩:=h.bxs id ls hl;exact⟨⟨E,(hw _ (Aj.1 hE).1 (.inr (.inr ⟨id,by simp[hl],rfl⟩))).trans hE⟩,h2⟩
 .intro b hb;exact(hR b hb).trans (h.EM b hb)
def DA(F:Fix)(S:St)(g:Gh)(b:Nat):Prop:=¬F.K b/\(∀r,Bl S r->¬g.fp r b)/\∀id,(get S.bx id).isSome->b≠g.β id
theorem Inv.UY(h:Inv F S g a w){d:Nat}{x:T}{v:Value}{S0:Blk}(hd:d<F.N)(hp:S.DJ d ⟨.one,[.ow x]⟩=some S')(hs:Still w w')
 (hw:∀b,b<w.heap.size->¬DA F S g b->w'.heap[b]?=w.heap[b]?) (ho:Own w' x v S0) (hS:∀b,S0 b->w.heap.size<=b\/DA F S g b):∃g',Inv F S' g' (a.put (some d) v) w':=by
 have h':Inv F S g a w':=h.quiet hs fun b hb hc=>hw b hb (by
  rintro⟨l1,l2,l3⟩;rcases hc with hc|⟨r,hr,hc⟩|⟨id,hid,rfl⟩
  .exact l1 hc
  .exact l2 r hr hc
  .exact l3 id hid rfl)
 have hlt:∀b,S0 b->DA F S g b:=by
  intro b hb;rcases hS b hb with hb|hb
  .refine⟨fun hK=>absurd (Az (h.rlt b hK) h.size) (by omega),?_,?_⟩
   .rintro r ⟨y,hy⟩ hf;obtain⟨u,_,hok⟩:=h.CL r _ hy;exact absurd (Own.lt hok b hf) (by omega)
   .rintro id hid rfl;obtain⟨ls,hls⟩:=Option.isSome_iff_exists.1 hid;obtain⟨⟨E,hE⟩,_⟩:=h.bxs id ls hls;exact absurd (Aj.1 hE).1 (by omega)
  .exact hb
 refine h'.DJ (vs:=[v]) (nf:=fun _=>S0) hp hd ⟨rfl,?_,?_⟩
 .intro c l hl;cases c with|zero=>simp only[AI,AB]at hl;subst hl;exact⟨v,rfl,ho⟩|succ c=>simp at hl
 .intro c y hy;refine⟨fun b hb=>(hlt b hb).1,fun r hr b hb=>(hlt b hb).2.1 r hr,fun id hid hb=>(hlt _ hb).2.2 id hid rfl,fun c' y' hy' hne=>?_⟩
  grind
end
section
variable{F:Fix}{S S' S1 S2:St}{g g':Gh}{a a':Act}{w w':World}
theorem G0(z:Array Value)(n:Nat):(Builtin.zeroCells z n).size=n*z.size:=by simp[Builtin.zeroCells]
theorem Pd{P:Program}{el:TypeId}(h:JH P el=true):∃i z,P.info? el=some i/\i.zero=some z/\z.cells.size=i.size/\0<i.bytes:=by
 grind[JH]
theorem iy(h:Inv F S g a w){d e:Nat}{t u ty el:TypeId}{xs ys:List (List T)}{c c':Nat->Nat->Value}{f f':Nat->Nat->Blk}{olds news:List Value}{ad:Option Addr}{sCap:Nat}{y:Value}
 (hd:d<F.N) (hp:S.DJ d ⟨.one,[.ow (.sl e (xs++ys))]⟩=some S') (ht:F.P.underlying t=some (.slice el)) (hg:JH F.P el=true) (he:EL F.P t e=true)
 (hx:Bo w e xs c f olds) (hxs:K0 F.P w e (.slice ad xs.length sCap) xs.length olds) (hy:Bo w e ys c' f' news) (hys:MH F.P w t u ty el e y ys.length news) (hroom:sCap<xs.length+ys.length) (hlim:xs.length+ys.length<=lim)
 (hdis:∀i j x i' j' x' b,at2 xs i j=some x->at2 ys i' j'=some x'->f i j b->¬f' i' j' b) (hl:∀i j x b,at2 xs i j=some x->f i j b->DA F S g b) (hl':∀i j x b,at2 ys i j=some x->f' i j b->DA F S g b) :
 ∃v w' g',(Builtin.append_ #[t,u] ty #[.slice ad xs.length sCap,y]).run F.P w=.ok v w'/\Inv F S' g' (a.put (some d) v) w'/\∀b,b<w.heap.size->w'.heap[b]?=w.heap[b]?:=by
 obtain⟨i,z,hi,hz,hzs,hb0⟩:=Pd hg;obtain⟨el',i',ht',hi',his,hby,hpos⟩:=Et he;rw[ht]at ht';cases ht';rw[hi]at hi';cases hi';have hfit:Builtin.nextslicecap (xs.length+ys.length) sCap*i.bytes<=281474976710656:=by
  have h1:=nextslicecap_le hroom;have h2:xs.length+ys.length<=268435456:=hlim
  calc Builtin.nextslicecap (xs.length+ys.length) sCap*i.bytes<=(2*268435456)*65536:=Nat.mul_le_mul (by omega) hby
   _<=281474976710656:=by omega
 have hrun:=hys.grow hi hz his hxs hroom hb0 hfit hlim;have hge:=grownCap_ge w (xs.length+ys.length) sCap el;have hA:=hx.app hy hdis;have hlen:(xs++ys).length=xs.length+ys.length:=by simp
 have hrow:D7 (Ev w el (olds.toArray++news.toArray++Builtin.zeroCells z.cells (grownCap w (xs.length+ys.length) sCap el-(xs.length+ys.length)))) w.heap.size
  (olds.toArray++news.toArray++Builtin.zeroCells z.cells (grownCap w (xs.length+ys.length) sCap el-(xs.length+ys.length))) el e:=.of I8
 have hold:∀{cells:Array Value} {b:Nat},b<w.heap.size->(Ev w el cells).heap[b]?=w.heap[b]?:=fun hb=>Dx hb
 have hblt:∀i j x b,at2 (xs++ys) i j=some x->(if i<xs.length then f i j else f' (i-xs.length) j) b->b<w.heap.size/\DA F S g b:=by
  intro i j x b hxx hb;refine⟨Own.lt (hA.cell i j x hxx).2 b hb,?_⟩;rcases P8 hxx with ⟨hi,hx'⟩|⟨hi,hx'⟩
  .rw[if_pos hi]at hb;exact hl _ _ _ b hx' hb
  .rw[if_neg (by omega)]at hb;exact hl' _ _ _ b hx' hb
 have hO:=hA.own (cap:=grownCap w (xs.length+ys.length) sCap el) (off:=0) hrow (by rw[hlen];exact hge) (by
  simp only[Array.size_append,Am,G0,hx.len,hy.len,hzs,his,Ai];rw[<-A3,<-A3];exact AV _ (by omega)) (by
  intro k v hk;rw[Ai,Array.getElem?_append_left]
  .simpa using hk
  .have:=(AJ.1 hk).1;simpa using this) (by
  intro i j x hxx hb;exact absurd (hblt i j x _ hxx hb).1 (by omega)) (fun i j x b hxx hb=>hold (hblt i j x b hxx hb).1)
 obtain⟨g',hG⟩:=h.UY hd hp (w':=Ev w el (olds.toArray++news.toArray++Builtin.zeroCells z.cells (grownCap w (xs.length+ys.length) sCap el-(xs.length+ys.length)))) (by
  refine .old ?_ rfl rfl fun b hb=>hold hb
  show w.heap.size<=(w.heap.push _).size;rw[Array.size_push];omega) (fun b hb _=>hold hb) hO (by
  rintro b (rfl|⟨i,j,x,hxx,hb⟩)
  .exact .inl (AT _)
  .exact .inr (hblt i j x b hxx hb).2)
 grind
theorem ADR(h:Inv F S g a w){d e:Nat}{t u ty el:TypeId}{xs ys:List (List T)}{c c':Nat->Nat->Value}{f f':Nat->Nat->Blk}{olds news:List Value}{blk off sCap:Nat}{arr:Array Value}{E:TypeId}{y:Value}
 (hd:d<F.N) (hp:S.DJ d ⟨.one,[.ow (.sl e (xs++ys))]⟩=some S') (ht:F.P.underlying t=some (.slice el)) (he:EL F.P t e=true)
 (hx:Bo w e xs c f olds) (hr:D7 w blk arr E e) (hsz:off+sCap*e<=arr.size) (hat:∀k u,olds[k]?=some u->arr[off+k]?=some u) (hy:Bo w e ys c' f' news) (hys:MH F.P w t u ty el e y ys.length news) (hroom:xs.length+ys.length<=sCap)
 (hdis:∀i j x i' j' x' b,at2 xs i j=some x->at2 ys i' j'=some x'->f i j b->¬f' i' j' b) (hl:∀i j x b,at2 xs i j=some x->f i j b->DA F S g b/\b≠blk) (hl':∀i j x b,at2 ys i j=some x->f' i j b->DA F S g b/\b≠blk)
 (hb:DA F S g blk) :
 ∃v w' g',(Builtin.append_ #[t,u] ty #[.slice (some ⟨blk,off,none⟩) xs.length sCap,y]).run F.P w=.ok v w'/\Inv F S' g' (a.put (some d) v) w'/\∀b,b≠blk->w'.heap[b]?=w.heap[b]?:=by
 obtain⟨el',i,ht',hi,his,hby,hpos⟩:=Et he;rw[ht]at ht';cases ht';have hA:=hx.app hy hdis;have hlen:(xs++ys).length=xs.length+ys.length:=by simp
 have hmul:(xs.length+ys.length)*e<=sCap*e:=AV _ hroom;rw[A3]at hmul;have hfit:off+xs.length*e+news.length<=arr.size:=by rw[hy.len];omega
 have hrun:=hys.room (sCap:=sCap) hroom hr hfit hy.one;have hblt:∀i j x b,at2 (xs++ys) i j=some x->(if i<xs.length then f i j else f' (i-xs.length) j) b->DA F S g b/\b≠blk:=by
  intro i j x b hxx hb;rcases P8 hxx with ⟨hi,hx'⟩|⟨hi,hx'⟩
  .rw[if_pos hi]at hb;exact hl _ _ _ b hx' hb
  .rw[if_neg (by omega)]at hb;exact hl' _ _ _ b hx' hb
 have hO:=hA.own (cap:=sCap) (off:=off) (w':=w.setRow blk (arr.toList.take (off+xs.length*e)++news++arr.toList.drop (off+xs.length*e+news.length)).toArray) (hr.set (by simp;omega)) (by rw[hlen];exact hroom) (by simp;omega) (by
  intro k v hk;have hgen:=Ez arr.toList (off+xs.length*e) news (by simpa using hfit) (off+k);rw[Jw _ _ _ (by simpa using hfit)]at hgen;simp only[A0];rw[hgen];by_cases hk':k<olds.length
  .rw[Ar hk']at hk;have:=hx.len;rw[if_neg (by omega)];simpa using hat k v hk
  .rw[An (by omega)]at hk;have h1:=hx.len;have h2:=(AJ.1 hk).1;rw[if_pos (by omega)];rw[<-hk];congr 1;omega) (fun i j x hxx hb=>(hblt i j x _ hxx hb).2 rfl) (fun i j x b hxx hb=>setRow_other (hblt i j x b hxx hb).2)
 obtain⟨g',hG⟩:=h.UY hd hp (w':=w.setRow blk (arr.toList.take (off+xs.length*e)++news++arr.toList.drop (off+xs.length*e+news.length)).toArray) (by
  exact Still.setRow) (fun b _ hnl=>setRow_other (by rintro rfl;exact hnl hb)) hO (by
  rintro b (rfl|⟨i,j,x,hxx,hb⟩)
  .exact .inr hb
  .exact .inr (hblt i j x b hxx hb).1)
 grind[setRow_other]
theorem ABC{r:Bj}{x:T}(h:Inv F S g a w)(hx:S.at r=some (.ow x)){b:Nat}(hb:g.fp r b):DA F (S.out r) g b:=by
 refine⟨h.Fa r ⟨_,hx⟩ b hb,fun r' hr' hb'=>?_,fun id hid hb'=>?_⟩
 .obtain⟨hne,hal⟩:=G2 hx hr';exact h.dis r r' ⟨_,hx⟩ hal (Ne.symm hne) b hb hb'
 .subst hb';exact h.EO r id ⟨_,hx⟩ (TD hid) hb
theorem oD{P:Program}{w:World}{e:Nat}:K0 P w e (.slice none 0 0) ([]:List (List T)).length []:=
 ⟨fun w'=>by simp[Builtin.lenOf],by simp[Builtin.firstCells],by simp[Builtin.firstCells]⟩
theorem PE(h:Inv F S g a w){d e:Nat}{t u ty el:TypeId}{ys:List (List T)}{c':Nat->Nat->Value}{f':Nat->Nat->Blk}{news:List Value}{y:Value}
 (hd:d<F.N) (hp:S.DJ d ⟨.one,[.ow (.sl e ys)]⟩=some S') (ht:F.P.underlying t=some (.slice el)) (hg:JH F.P el=true) (he:EL F.P t e=true)
 (hy:Bo w e ys c' f' news) (hys:MH F.P w t u ty el e y ys.length news) (hlim:ys.length<=lim) (hl':∀i j x b,at2 ys i j=some x->f' i j b->DA F S g b) :
 ∃v w' g',(Builtin.append_ #[t,u] ty #[.slice none 0 0,y]).run F.P w=.ok v w'/\Inv F S' g' (a.put (some d) v) w'/\∀b,b<w.heap.size->w'.heap[b]?=w.heap[b]?:=by
 cases ys with
 |nil=>
  obtain⟨el',i,ht',hi,his,_,_⟩:=Et he;rw[ht]at ht';cases ht';have hn:news=[]:=by
   have:=hy.len;simp at this;exact List.eq_nil_of_length_eq_zero (by simpa using this)
  subst hn;have hrun:=hys.nil rfl rfl;obtain⟨g',hG⟩:=h.UY (w':=w) (x:=.sl e []) (v:=.slice none 0 0) (S0:=fun _=>False) hd hp Still.refl (fun _ _ _=>rfl) (.nl (by simp)) (fun _ hb=>hb.elim);exact⟨_,_,g',hrun,hG,fun _ _=>rfl⟩
 |cons r rs=>
  exact iy h (xs:=[]) (c:=fun _ _=>undef) (f:=fun _ _ _=>False) (olds:=[]) (sCap:=0) hd hp ht hg he .nil oD hy hys (by simp) (by simpa using hlim)
   (by intro i j x i' j' x' b hx;simp[at2]at hx) (by intro i j x b hx;simp[at2]at hx) hl'
end
section
variable{F:Fix}{S S' S1 S2:St}{g g':Gh}{a a':Act}{w w':World}
theorem DA.out{r:Bj}{x:T}{b:Nat}(h:DA F S g b)(hx:S.at r=some (.ow x)):DA F (S.out r) g b:=
 ⟨h.1,fun r' hr'=>h.2.1 r' (G2 hx hr').2,fun id hid=>h.2.2 id (TD hid)⟩
theorem DA.tg{b:Nat}(h:DA F S g b)(hT:Gm F S S' g g' a w):DA F S' g' b:=
 ⟨h.1,fun r' hr' hb=>h.2.1 r' (hT.al r' hr') (hT.fp r' b hb),fun id hid=>by rw[hT.β];exact h.2.2 id (hT.bx id hid)⟩
theorem AAH(h:Inv F S2 g a w){v:Value}{d e:Nat}{xs ys:List (List T)}{S0:Blk}{t u ty el:TypeId}{c':Nat->Nat->Value}{f':Nat->Nat->Blk}{news:List Value}{y:Value}
 (hO:Own w (.sl e xs) v S0) (hl:∀b,S0 b->DA F S2 g b) (hlim:xs.length+ys.length<=lim) (hd:d<F.N) (hp:S2.DJ d ⟨.one,[.ow (.sl e (xs++ys))]⟩=some S') (ht:F.P.underlying t=some (.slice el))
 (hg:JH F.P el=true) (he:EL F.P t e=true) (hy:Bo w e ys c' f' news) (hys:MH F.P w t u ty el e y ys.length news) (hl':∀i j x b,at2 ys i j=some x->f' i j b->DA F S2 g b/\¬S0 b) :
 ∃v' w' g',(Builtin.append_ #[t,u] ty #[v,y]).run F.P w=.ok v' w'/\Inv F S' g' (a.put (some d) v') w'/\∀b,b<w.heap.size->¬S0 b->w'.heap[b]?=w.heap[b]?:=by
 obtain⟨rfl,rfl⟩|⟨c,f,olds,blk,off,cap,arr,E,rfl,q2,q3,q4,q5,q6,q7,q8,q9⟩:=AI0 (P:=F.P) hO
 .grind[PE]
 have hdis:∀i j x i' j' x' b,at2 xs i j=some x->at2 ys i' j'=some x'->f i j b->¬f' i' j' b:=
  fun i j x i' j' x' b hxx hyy hb hb'=>(hl' i' j' x' b hyy hb').2 (q9 i j x b hxx hb).1
 by_cases hroom:xs.length+ys.length<=cap
 .obtain⟨v',w',g',r1,r2,r3⟩:=ADR (ty:=ty) h hd hp ht he q5 q3 q4 q7 hy hys hroom hdis (fun i j x b hxx hb=>⟨hl b (q9 i j x b hxx hb).1,(q9 i j x b hxx hb).2⟩)
   (fun i j x b hxx hb=>⟨(hl' i j x b hxx hb).1,by rintro rfl;exact(hl' i j x _ hxx hb).2 q8⟩) (hl _ q8)
  grind
 grind[iy]
theorem jI(h:Inv F S g a w){lx:AN}{v:Value}(hlx:BR F S g w (fun _=>False) lx v)(hT:LF F S S1 g a w){d e n:Nat}{b:T}{t u ty el:TypeId}{ys:List (List T)}{c':Nat->Nat->Value}{f':Nat->Nat->Blk}{news:List Value}{y:Value}
 (hb:Mx e S1 lx=some (S2,b,n)) (hlim:n+ys.length<=lim) (hd:d<F.N) (hp:S2.DJ d ⟨.one,[.ow (AAd e b ys)]⟩=some S') (ht:F.P.underlying t=some (.slice el))
 (hg:JH F.P el=true) (he:EL F.P t e=true) (hy:Bo w e ys c' f' news) (hys:MH F.P w t u ty el e y ys.length news) (hl':∀i j x b,at2 ys i j=some x->f' i j b->DA F S1 g b) :
 ∃v' w' g',(Builtin.append_ #[t,u] ty #[v,y]).run F.P w=.ok v' w'/\Inv F S' g' (a.put (some d) v') w'/\∀b,b<w.heap.size->(∀r,lx.BX=some r->¬g.fp r b)->w'.heap[b]?=w.heap[b]?:=by
 unfold Mx at hb;split at hb
 .simp only[AB,Ag]at hb;obtain⟨rfl,rfl,rfl⟩:=hb;have hv:v=.slice none 0 0:=hlx;subst hv;obtain⟨v',w',g',r1,r2,r3⟩:=PE (ty:=ty) hT.inv hd hp ht hg he hy hys (by omega) hl';exact⟨v',w',g',r1,r2,fun b hb _=>r3 b hb⟩
 .rename_i r sub;split at hb
  .rename_i x hx;obtain⟨x',uv,h1,h2,h3⟩:=hlx;have hx0:=hT.same r _ hx;rw[h1]at hx0;cases hx0;obtain⟨u',hu',hown⟩:=h.CL r _ h1;rw[h2]at hu';cases hu';obtain⟨S0,hS0,hO⟩:=Mk hown h3;split at hb
   .rename_i zs hzs;split at hb
    .rename_i hc;simp only[AB,Ag]at hb;obtain⟨rfl,rfl,rfl⟩:=hb;have hout:=hT.inv.out hx;have hl2:∀i j x b,at2 ys i j=some x->f' i j b->DA F (S1.out r) g b:=fun i j x b hxx hb=>(hl' i j x b hxx hb).out hx
     have hne:∀i j x b,at2 ys i j=some x->f' i j b->¬g.fp r b:=fun i j x b hxx hb=>(hl' i j x b hxx hb).2.1 r ⟨_,hx⟩
     cases x with
     |sl e' xs0=>
      simp only[content,AB]at hzs;subst hzs;simp only[eOf,beq_iff_eq]at hc;obtain⟨rfl,_⟩:=hc;obtain⟨v',w',g',r1,r2,r3⟩:=AAH (ty:=ty) (xs:=HD sub xs0) hout hO (fun b hb=>ABC hT.inv hx (hS0 b hb)) hlim hd hp ht hg he hy hys (fun i j x b hxx hb=>⟨hl2 i j x b hxx hb,fun hb'=>hne i j x b hxx hb (hS0 b hb')⟩);exact⟨v',w',g',r1,r2,fun b hb hr=>r3 b hb fun hb'=>hr r rfl (hS0 b hb')⟩
     |nil=>
      simp only[content,AB]at hzs;subst hzs;have hv:v=.slice none 0 0:=by
       cases hO with
       |sc hs _ _=>exact hs
      subst hv;obtain⟨v',w',g',r1,r2,r3⟩:=PE (ty:=ty) hout hd hp ht hg he hy hys (by omega) hl2;exact⟨v',w',g',r1,r2,fun b hb _=>r3 b hb⟩
     |_=>simp[content]at hzs
    .cases hb
   .cases hb
  .cases hb
 .rename_i r i j e' xs;split at hb
  .rename_i hee;subst hee;split at hb
   .rename_i S3 hpl;simp only[AB,Ag]at hb;obtain⟨rfl,rfl,rfl⟩:=hb;obtain⟨hal,_,k⟩:=hlx;obtain⟨e0,rows,hx,_⟩:=KK hpl;have hx0:=hT.same r _ hx;obtain⟨e1,rows1,blk,off,len,cap,k1,k2,k3,k4,k5⟩:=k;rw[hx0]at k1;cases k1;obtain⟨S0,g1,q1,q2,q3,q4,q5,q6,q7⟩:=hT.inv.pull hpl ⟨_,_,blk,off,len,cap,hx,k2,k3,k4,k5⟩;have hloose:∀b,S0 b->DA F S3 g1 b:=fun b hb=>
     ⟨hT.inv.Fa r q7 b (q3 b hb),fun r' hr' hb'=>by
      by_cases hrr:r'=r
      .subst hrr;exact q4 b hb hb'
      .exact hT.inv.dis r r' q7 (q1.al r' hr') (Ne.symm hrr) b (q3 b hb) (q1.fp r' b hb'),fun id hid hb'=>by
      rw[q1.β]at hb';subst hb';exact hT.inv.EO r id q7 (q1.bx id hid) (q3 _ hb)⟩
    obtain⟨v',w',g',r1,r2,r3⟩:=AAH (ty:=ty) q1.inv q2 hloose hlim hd hp ht hg he hy hys (fun i j x b hxx hb=>⟨(hl' i j x b hxx hb).tg q1,fun hb'=>(hl' i j x b hxx hb).2.1 r q7 (q3 b hb')⟩);exact⟨v',w',g',r1,r2,fun b hb hr=>r3 b hb fun hb'=>hr r rfl (q3 b hb')⟩
   .cases hb
  .cases hb
 .cases hb
theorem vD(h:Inv F S g a w){d e:Nat}{fl:Bool}{t u ty el:TypeId}{dd:TypeDesc}{oa ob:Operand}{x y:Opd}(hd:d<F.N)(hev:ev (.app d e fl x y) S=some S')(hoa:Bh oa x=true)(hob:Bh ob y=true)
 (hma:∀p∈Bk oa x,Mt F.A F.P p.1 p.2) (hmb:∀p∈Bk ob y,Mt F.A F.P p.1 p.2) (he:EL F.P t e=true) (ht:F.P.underlying t=some (.slice el)) (hg:JH F.P el=true) (hu:F.P.underlying u=some dd) (hdd:dd=.string\/∃e',dd=.slice e') :
 ∃v w' g',(Builtin.append_ #[t,u] ty #[a.eval oa,a.eval ob]).run F.P w=.ok v w'/\Inv F S' g' (a.put (some d) v) w'/\∀b,b<w.heap.size->(∀l r,S.one x=some l->l.BX=some r->¬g.fp r b)->w'.heap[b]?=w.heap[b]?:=by
 obtain⟨el',i,ht',hi,his,_,_⟩:=Et he;rw[ht]at ht';cases ht';simp only[ev]at hev;split at hev
 .rename_i lx ly hx hy;split at hev
  .rename_i S1 ys hs;split at hev
   .rename_i S2 b n hb;split at hev
    .rename_i hlim;obtain⟨hlx,_⟩:=Ft h hx hoa hma;obtain⟨hly,_⟩:=Ft h hy hob hmb;obtain⟨hT,c',f',news,hC,hS,hl⟩:=ALJ h hly hs;obtain⟨v',w',g',r1,r2,r3⟩:=jI (ty:=ty) h hlx hT hb hlim hd hev ht hg he hC (hS.app ht hi his hu hdd) fun i j x b hxx hb=>⟨(hl i j x b hxx hb).1,(hl i j x b hxx hb).2.1,fun id hid=>(hl i j x b hxx hb).2.2 id (hT.bx id hid)⟩
     exact⟨v',w',g',r1,r2,fun b hb hr=>r3 b hb fun r hlr=>hr lx r hx hlr⟩
    .cases hev
   .cases hev
  .cases hev
 .cases hev
theorem gH(h:Inv F S g a w){d:Nat}{t u ty el:TypeId}{k0:IntKind}{zs:List T}{oa ob:Operand}{x y:Opd}(hd:d<F.N)(hev:ev (.Oo d zs x y) S=some S')(hoa:Bh oa x=true)(hob:Bh ob y=true)
 (hma:∀p∈Bk oa x,Mt F.A F.P p.1 p.2) (hmb:∀p∈Bk ob y,Mt F.A F.P p.1 p.2) (he:EL F.P t zs.length=true) (ht:F.P.underlying t=some (.slice el)) (hg:JH F.P el=true) (hz:o7 F.P el zs=true) (hu:F.P.underlying u=some (.int k0)) :
 ∃v w' g',(Builtin.append_ #[t,u] ty #[a.eval oa,a.eval ob]).run F.P w=.ok v w'/\Inv F S' g' (a.put (some d) v) w'/\∀b,b<w.heap.size->(∀l r,S.one x=some l->l.BX=some r->¬g.fp r b)->w'.heap[b]?=w.heap[b]?:=by
 obtain⟨el',i,ht',hi,his,hby,hpos⟩:=Et he;rw[ht]at ht';cases ht';obtain⟨i2,z,hi2,hzv,his2,hzsz,hzc⟩:=Y5 (w:=w) hz;rw[hi]at hi2;cases hi2;simp only[ev]at hev;split at hev
 .rename_i lx m hx hm;obtain⟨k,hk⟩:=N5 h hm hob hmb;split at hev
  .rename_i hc;obtain⟨hc0,hc1⟩:=hc;split at hev
   .rename_i S2 b n hb;split at hev
    .rename_i hlim;obtain⟨hlx,_⟩:=Ft h hx hoa hma;have hC0:Bo w zs.length (rowsOf m.toNat zs) (fun i j=>((Builtin.zeroCells z.cells m.toNat)[i*zs.length+j]?).getD undef) (fun _ _ _=>False) (Builtin.zeroCells z.cells m.toNat).toList:=by
      refine⟨by simp[G0,rowsOf,hzsz],by intro row hr;simp[rowsOf]at hr;rw[hr.2],?_,by simp⟩;intro i j x hx;obtain⟨hi,hj⟩:=Um hx;obtain⟨v,hv',hs⟩:=hzc j x hj;have hjl:j<zs.length:=(AJ.1 hj).1;have hmul:(i+1)*zs.length<=m.toNat*zs.length:=AV _ hi;rw[A3,Cl]at hmul;have hmm:(Builtin.zeroCells z.cells m.toNat)[i*zs.length+j]?=some v:=by
       have hlt:i*zs.length+j<m.toNat*z.cells.size:=by rw[hzsz];omega
       have hmod:(i*zs.length+j) % z.cells.size=j:=by rw[hzsz,EW,Nat.mul_add_mod];exact Nat.mod_eq_of_lt hjl
       have hg:z.cells[j]! = v:=by
        rw[Array.getElem!_eq_getD,Array.getD_eq_getD_getElem?,hv'];rfl
       simp only[Builtin.zeroCells,Array.getElem?_map,Array.getElem?_range,if_pos hlt,Ab,hmod,hg]
      rw[Cc,hmm];exact⟨rfl,hs⟩
     have hA:MH F.P w t u ty el zs.length (.int k m) (rowsOf m.toNat zs).length (Builtin.zeroCells z.cells m.toNat).toList:=by
      have:=pk (P:=F.P) (w:=w) (ty:=ty) (k:=k) ht hi hzv hu hc0 hc1 hby (by rw[his];exact hpos) (by rw[hzsz,his]);rw[his]at this;simpa[rowsOf] using this
     rw[hk];obtain⟨v',w',g',r1,r2,r3⟩:=jI (ty:=ty) h hlx ⟨h,fun _ _ h=>h,fun _ h=>h,rfl⟩ hb (by simpa[rowsOf] using hlim) hd hev ht hg he hC0 hA (fun _ _ _ _ _ hb=>hb.elim);exact⟨v',w',g',r1,r2,fun b hb hr=>r3 b hb fun r hlr=>hr lx r hx hlr⟩
    .cases hev
   .cases hev
  .cases hev
 .cases hev
end
theorem jJ{xs:List (List T)}{bs:List UInt8}(h:bytesOf xs=some bs):∃ns:List Int,xs=ns.map (fun n=>[T.int .u8 n])/\bs=ns.map fun n=>UInt8.ofNat n.toNat:=by
 induction xs generalizing bs with
 |nil=>simp only[bytesOf,AB]at h;subst h;exact⟨[],rfl,rfl⟩|cons x xs ih=>
  simp only[bytesOf]at h;split at h
  .rename_i b bs' hb hbs;cases h;obtain⟨ns,h1,h2⟩:=ih hbs;unfold byteOf at hb;split at hb
   .rename_i n;cases hb;exact⟨n::ns,by simp[h1],by simp[h2]⟩
   .cases hb
  .cases h
theorem foldl_push(f:Int->UInt8)(ns:List Int)(r:ByteArray):ns.foldl (fun r n=>r.push (f n)) r=⟨r.data++(ns.map f).toArray⟩:=by
 induction ns generalizing r with
 |nil=>simp|cons n ns ih=>rw[List.foldl_cons,ih];simp[ByteArray.push]
section
variable{F:Fix}{S S':St}{g g':Gh}{a a':Act}{w w':World}
theorem gJ(h:Inv F S g a w){d:Nat}{s t:TypeId}{o:Operand}{x:Opd}(hd:d<F.N)(hev:ev (.NO d x) S=some S')(ho:Bh o x=true)(hm:∀p∈Bk o x,Mt F.A F.P p.1 p.2)(hs:MY F.P s=true)(ht:isStr F.P t=true) :
 ∃v g',(∀w1,ADG (a.eval o) w w1->(convert s t (a.eval o)).run F.P w1=.ok v w1)/\Inv F S' g' (a.put (some d) v) w:=by
 simp only[ev]at hev;split at hev
 .rename_i l hl;split at hev
  .rename_i xs hxs;split at hev
   .rename_i bs hbs;obtain⟨hlx,_⟩:=Ft h hl ho hm;unfold isStr at ht;split at ht
    .rename_i hut;unfold MY at hs;split at hs
     .rename_i el hus;simp only[AD]at hs;obtain⟨hie,_⟩:=hs;unfold isInt at hie;split at hie
      .rename_i k hue;simp only[decide_eq_true_eq]at hie;subst hie;obtain⟨ns,h1,h2⟩:=jJ hbs;have hrun:∀w1,ADG (a.eval o) w w1->(convert s t (a.eval o)).run F.P w1=.ok (.string ⟨bs.toArray⟩) w1:=by
        intro w1 hw1;rcases PJ h hlx hxs with ⟨hx0,hv⟩|⟨e,hV,_⟩
        .subst hx0;have:ns=[]:=by simpa using h1.symm
         subst this;rw[hv,run_convert_bytes_string w1 s t el none 0 0 hus hue hut];subst h2;simp[Conv.bytesToString,Sem.run_pure];rfl
        .have hflat:E3 xs=true:=by subst h1;simp[E3,flat]
         have hV:View w1 (fun _=>True) (.sl e xs) (a.eval o):=by
          revert hw1;generalize a.eval o=v at hV;intro hw1;cases hV with
          |sc h=>exact h.elim|nl=>exact .nl|@sl _ _ ad len cap c0 q1 q2 q3 q4 q5 q6=>
           refine .sl c0 q1 q2 q3 q4 ?_ ?_
           .intro i j x hx;rw[IS (hw1 ad.block rfl)];exact q5 i j x hx
           .intro i j x hx;have hf:=MR hflat hx;have hq:=q6 i j x hx;revert hq;generalize c0 i j=u;intro hq;cases hq with|sc hs=>exact .sc hs|sl=>simp[flat]at hf|nl=>simp[flat]at hf|mp=>simp[flat]at hf
         obtain⟨c,vs,hC,hS⟩:=ZT (P:=F.P) hV hflat;generalize hv:a.eval o=v at *;cases hV with
         |sc h=>exact h.elim|nl=>
          have:ns=[]:=by simpa using h1.symm
          subst this;rw[run_convert_bytes_string w1 s t el none 0 0 hus hue hut];subst h2;simp[Conv.bytesToString,Sem.run_pure];rfl
         |@sl _ _ ad len cap c0 q1 q2 q3 q4 q5 q6=>
          rw[run_convert_bytes_string w1 s t el (some ad) len cap hus hue hut];have hload:=hS.first
          have hvs:vs=ns.map (Value.int .u8):=by
           apply List.ext_getElem?;intro i;cases hi:ns[i]? with
           |none=>
            have h3:ns.length<=i:=List.getElem?_eq_none_iff.1 hi;have h4:vs.length=ns.length*e:=by rw[hC.len,h1,List.length_map]
            have hA:(ns.map (Value.int .u8))[i]?=none:=Cd (by simpa using h3);rw[hA,Cd];cases ns with
            |nil=>have h5:vs.length=0:=by simpa using h4
                  omega
            |cons n ns=>
             have:=q3 [.int .u8 n] (by rw[h1];simp);have he1:e=1:=by simpa using this.symm
             rw[he1,HR]at h4;omega
           |some n=>
            have hx:at2 xs i 0=some (.int .u8 n):=by simp[at2,h1,hi]
            have he:e=1:=by
             have:=q3 [.int .u8 n] (by rw[h1];exact DC.2 ⟨n,AX hi,rfl⟩);simpa using this.symm
            subst he;obtain⟨r1,r2⟩:=hC.cell i 0 _ hx;rw[HR,CO]at r1;rw[r1];cases r2 with
            |sc hs _ _=>have:c i 0=.int .u8 n:=hs;simp[this,hi]
          have hlen:len*e=len:=by
           cases ns with
           |nil=>subst h1;simp at q1;subst q1;simp|cons n ns=>
            have:=q3 [.int .u8 n] (by rw[h1];simp);simp at this;subst this;simp
          simp only[Builtin.firstCells]at hload;rw[<-q1,hlen,hvs]at hload;rw[run_bytesToString w1 ad len cap ns hload,foldl_push,h2];simp
       obtain⟨g',hg⟩:=Ie (v:=.string ⟨bs.toArray⟩) h hd hev rfl;exact⟨_,g',hrun,hg⟩
      .cases hie
     .cases hs
    .cases ht
   .cases hev
  .cases hev
 .cases hev
theorem zt(h:Inv F S g a w)(ks:List Nat):Inv F (S.GP ks) g a w:=by
 have hat:∀r l',(S.GP ks).at r=some l'->∃l,S.at r=some l/\l'=(if Sq ks l then .t .top else l):=by
  intro r l' hl;cases r with
  |tmp s c=>
   grind[St.at,St.GP,Dz,IU,get,Em,Option.map_eq_some_iff]
  |cell b c=>
   grind[St.at,St.GP,CZ,get,Em,Option.map_eq_some_iff]
 have hat2:∀r x,S.at r=some (.ow x)->(match r with|.tmp s _=>s∉ks|.cell _ _=>True)->(S.GP ks).at r=some (.ow x):=by
  intro r x hx hr;cases r with
  |tmp s c=>
   simp only[St.at,St.GP,Dz,IU]at hx hr ⊢;simp only[hr,if_false];cases hg:get S.tm s with
   |none=>simp[hg]at hx|some e=>simp only[hg]at hx;simp[Em,hx,Sq,AN.BX]
  |cell b c=>
   simp only[St.at,St.GP,CZ]at hx hr ⊢;cases hg:get S.bx b with
   |none=>simp[hg]at hx|some e=>simp only[hg]at hx;simp[Em,hx,Sq,AN.BX]
 refine h.weaken ?_ ?_ ?_ rfl
 .intro s e' he;simp only[St.GP,Dz,IU,AG]at he;obtain⟨e,he,rfl⟩:=he;split at he
  .cases he
  .exact⟨e,he,rfl,D1 _ _⟩
 .intro id ls' hl;simp only[St.GP,CZ,AG]at hl;obtain⟨e,he,rfl⟩:=hl;exact⟨e,he,D1 _ _⟩
 grind[Sq]
theorem AIx(h:Inv F S g a w)(r:Bj)(e:Nat):∃g',Inv F (S.Zh r e) g' a w:=by
 unfold St.Zh;split
 case h_2=>exact⟨g,h⟩
 rename_i hx;have hat:=Es hx (S.nl0 r e);have hdead:¬Bl S r:=by rintro⟨x,hx'⟩;rw[hx]at hx';cases hx'
 let g':Gh:={ g with fp:=fun r'=>if r'=r then fun _=>False else g.fp r'}
 have hg'r:g'.fp r=fun _=>False:=by simp[g']
 have hg'o:∀r',r'≠r->g'.fp r'=g.fp r':=fun r' hne=>by simp[g',hne]
 have hal:∀r',Bl (S.BT r (S.nl0 r e)) r'->r'=r\/(r'≠r/\Bl S r'):=by
  rintro r' ⟨x,hx'⟩;by_cases hr:r'=r
  .exact .inl hr
  .rw[hat,if_neg hr]at hx';exact .inr ⟨hr,x,hx'⟩
 refine⟨g',{ CL:=?_,tms:=?_,bxs:=?_,dis:=?_,EO:=?_,Fa:=?_,E8:=?_,bxR:=?_,EM:=h.EM,rlt:=h.rlt,still:=h.still,defs:=h.defs,tsz:=h.tsz,pin:=?_}⟩
 .intro r' l hl;rw[hat]at hl;split at hl
  .subst_vars
   cases hl;obtain⟨v,hv,hok⟩:=h.CL _ _ hx;have hv0:v=.slice none 0 0:=hok;subst hv0;refine⟨_,hv,?_⟩;rw[hg'r];unfold St.nl0;split
   .split
    .exact View.nl
    .exact Own.nl (by simp)
   .exact Own.nl (by simp)
  .rename_i hne;obtain⟨v,hv,hok⟩:=h.CL r' l hl;refine⟨v,hv,?_⟩;rw[hg'o r' hne];refine hok.tr ?_ (fun _ _=>rfl) (fun _ _=>rfl) (fun _ _=>rfl);intro r1 hr1;have hne1:r1≠r:=by rintro rfl;exact hdead (hok.alive hr1)
   exact⟨by rw[hat,if_neg hne1],rfl,fun b hb=>by rw[hg'o r1 hne1];exact hb,fun _ _=>rfl⟩
 .intro s e' he;obtain⟨e0,h1,h2,h3⟩:=KT he;obtain⟨p1,p2,p3⟩:=h.tms s e0 h1;exact⟨p1,by rw[p2,h2],by rw[p3,h3]⟩
 .intro id ls' hl;obtain⟨l0,h1,h2⟩:=HU hl;obtain⟨p1,p2⟩:=h.bxs id l0 h1;exact⟨p1,by rw[p2,h2]⟩
 .intro r1 r2 h1 h2 hne b hb hb';rcases hal r1 h1 with rfl|⟨n1,a1⟩
  .rw[hg'r]at hb;exact hb
  .rcases hal r2 h2 with rfl|⟨n2,a2⟩
   .rw[hg'r]at hb';exact hb'
   .rw[hg'o r1 n1]at hb;rw[hg'o r2 n2]at hb';exact h.dis r1 r2 a1 a2 hne b hb hb'
 .intro r1 id h1 hid hb;rcases hal r1 h1 with rfl|⟨n1,a1⟩
  .rw[hg'r]at hb;exact hb
  .rw[hg'o r1 n1]at hb;exact h.EO r1 id a1 (by rwa[C6]at hid) hb
 .intro r1 h1 b hb;rcases hal r1 h1 with rfl|⟨n1,a1⟩
  .rw[hg'r]at hb;exact hb.elim
  .rw[hg'o r1 n1]at hb;exact h.Fa r1 a1 b hb
 .intro id id' h1 h2;exact h.E8 id id' (by rwa[C6]at h1) (by rwa[C6]at h2)
 .intro id h1;exact h.bxR id (by rwa[C6]at h1)
 .intro p hp;rw[Fz]at hp;obtain⟨p1,p2⟩:=h.pin p hp;exact⟨p1,fun hs=>p2 (by rwa[C6]at hs)⟩
theorem zw(h:Inv F S g a w):∀ns:List (Bj×Nat),∃g',Inv F (S.Mi ns) g' a w:=by
 intro ns
 induction ns generalizing S g with
 |nil=>exact⟨g,h⟩|cons x ns ih=>
  obtain⟨r,e⟩:=x;obtain⟨g',hg⟩:=AIx h r e;exact ih hg
end
section
variable{F:Fix}{S S' S1:St}{g g':Gh}{a a':Act}{w w':World}
theorem DA.taken{b:Nat}(h:DA F S g b)(hT:LF F S S1 g a w):DA F S1 g b:=⟨h.1,fun r hr=>h.2.1 r (hT.al r hr),fun id hid=>h.2.2 id (hT.bx id hid)⟩
theorem Bo.set{e i:Nat}{xs:List (List T)}{cs:List T}{c:Nat->Nat->Value}{f:Nat->Nat->Blk}{vs us:List Value}{nf:Nat->Blk}(h:Bo w e xs c f vs)(hi:i<xs.length)(hl:cs.length=e)
 (hu:us.length=e) (ho:∀(m:Nat) x,cs[m]?=some x->∃v,us[m]?=some v/\Own w x v (nf m)) (hd:∀m m' b,m<cs.length->m'<cs.length->m≠m'->nf m b->¬nf m' b)
 (hx:∀i j x m b,at2 xs i j=some x->m<cs.length->f i j b->¬nf m b) :
 Bo w e (xs.set i cs) (fun i' j=>if i'=i then us.getD j undef else c i' j) (fun i' j=>if i'=i then nf j else f i' j) (C2 vs (i*e) us):=by
 have hmul:(i+1)*e<=xs.length*e:=AV _ hi;rw[A3,Cl]at hmul;have hg:=Ez vs (i*e) us (by rw[h.len,hu];exact hmul);have hrow:∀row∈xs.set i cs,row.length=e:=by
  intro row hr;rcases List.mem_or_eq_of_mem_set hr with hr|rfl
  .exact h.row row hr
  .exact hl
 refine⟨by rw[KQ,h.len,List.length_set],hrow,?_,?_⟩
 .intro i' j x hxx;have hj:j<e:=Ka hxx hrow;rw[UL hi]at hxx;rw[hg];by_cases h1:i'=i
  .subst h1;rw[if_pos rfl]at hxx;obtain⟨v,hv,hO⟩:=ho j x hxx;simp only[if_true];rw[if_pos (by omega),show i'*e+j-i'*e=j from by omega,hv];refine⟨by simp[List.getD,hv],?_⟩;have:us.getD j undef=v:=by simp[List.getD,hv]
   rw[this];exact hO
  .rw[if_neg h1]at hxx;simp only[if_neg h1];obtain⟨q1,q2⟩:=h.cell i' j x hxx;refine⟨?_,q2⟩;rw[if_neg]
   .exact q1
   .intro hh;rcases Nat.lt_or_gt_of_ne h1 with hlt|hgt
    .have:(i'+1)*e<=i*e:=AV _ hlt;rw[A3,Cl]at this;omega
    .have:(i+1)*e<=i'*e:=AV _ hgt;rw[A3,Cl]at this;omega
 .intro i1 j1 x1 i2 j2 x2 hx1 hx2 hne b;have hj1:j1<e:=Ka hx1 hrow;have hj2:j2<e:=Ka hx2 hrow;rw[UL hi]at hx1 hx2;by_cases h1:i1=i<;>by_cases h2:i2=i
  .simp only[if_pos h1,if_pos h2];exact hd j1 j2 b (by omega) (by omega) (hne (h1.trans h2.symm))
  .rw[if_neg h2]at hx2;simp only[if_pos h1,if_neg h2];exact fun hb hb'=>hx _ _ _ j1 b hx2 (by omega) hb' hb
  .rw[if_neg h1]at hx1;simp only[if_neg h1,if_pos h2];exact fun hb hb'=>hx _ _ _ j2 b hx1 (by omega) hb hb'
  .rw[if_neg h1]at hx1;rw[if_neg h2]at hx2;simp only[if_neg h1,if_neg h2];exact h.dis _ _ _ _ _ _ hx1 hx2 hne b
theorem AJV{e n:Nat}:∀(ps:List (Nat×Operand)) (qs:List (Nat×Opd)) (S S':St) (g:Gh) (xs ys:List (List T)) (c:Nat->Nat->Value) (f:Nat->Nat->Blk) (cells:Array Value),Inv F S g a w->Od ps qs=true ->
 (∀p∈Lx ps qs,Mt F.A F.P p.1 p.2)->bsK e n S xs qs=some (S',ys)->xs.length=n->Bo w e xs c f cells.toList->(∀i j x b,at2 xs i j=some x->f i j b->DA F S g b) ->
  ∃g2,Gm F S S' g g2 a w/\ys.length=n/\∃c' f' cells',Instr.fill (fun i=>some (i*e,e)) cells (ps.map fun p=>(p.1,a.eval p.2))=some cells'/\Bo w e ys c' f' cells'.toList/\∀i j x b,at2 ys i j=some x->f' i j b->DA F S' g2 b
 | [],qs,S,S',g,xs,ys,c,f,cells,h,hp,_,hb,hn,hC,hl=>by
  cases qs<;>simp[Od]at hp;simp only[bsK,AB,Ag]at hb;obtain⟨rfl,rfl⟩:=hb;exact⟨g,LF.toG ⟨h,fun _ _ h=>h,fun _ h=>h,rfl⟩,hn,c,f,cells,rfl,hC,hl⟩
 |(i,o)::ps,qs,S,S',g,xs,ys,c,f,cells,h,hp,hm,hb,hn,hC,hl=>by
  match qs,hp with
  |(i',x)::qs,hp=>
   simp only[Od,AD,beq_iff_eq]at hp;obtain⟨⟨rfl,ho⟩,hp⟩:=hp;simp only[bsK]at hb;split at hb
   .rename_i en hen;split at hb
    .rename_i hc;obtain⟨c1,c2,c3⟩:=hc;split at hb
     .rename_i S1 cs hown;obtain⟨vs,h1,h2,h3,h4⟩:=Kt h hen ho fun p hp'=>hm p (by simp[Lx,hp'])
      obtain⟨g1,htaken,nf,hT,hnf⟩:=RZ h h3 h2 (by
       intro c l hl;obtain⟨u,hu,hok⟩:=h4 c l hl;exact⟨u,hu,fun _ _ _=>hok,fun _=>hok⟩) hown
      obtain⟨t1,t2,t3,t4,t5,t6⟩:=hT;have hone:∀v∈vs,v.oneCell'=true:=by
       intro v hv;obtain⟨c,hc⟩:=BE hv;have hlt:c<cs.length:=by rw[<-t1];exact(AJ.1 hc).1
       obtain⟨v',hv',ho⟩:=t2 c cs[c] (by simp[hlt]);rw[hc]at hv';cases hv';exact ho.one
      have hcl:=S6 c2 h2 hone;have hsz:(a.eval o).cells.size=e:=by rw[h1,<-BC,hcl,h2,c1]
      have hcsl:cs.length=e:=by rw[<-t1,h2,c1]
      have hset:=hC.set (nf:=nf) (us:=vs) (by omega:i<xs.length) hcsl (by omega) t2 t6 (by
       intro i' j' x' m b hx' hm' hb1 hb2;obtain⟨_,r,_,_,hr,hb3⟩:=hnf m b hm' hb2;exact(hl i' j' x' b hx' hb1).2.1 r hr hb3)
      have hfold:((a.eval o).cells.zipIdx.foldl (fun cs (p:Value×Nat)=>cs.setIfInBounds (i*e+p.2) p.1) cells).toList=C2 cells.toList (i*e) vs:=by
       rw[<-Array.foldl_toList,Array.toList_zipIdx,h1,hcl];exact RD _ (i*e) 0 cells
      rw[<-hfold]at hset;obtain⟨g2,r1,r2,c',f',cells',hfill,r3,r4⟩:=AJV ps qs S1 S' g1 _ ys _ _ _ htaken.inv hp (fun p hp'=>hm p (by simp[Lx,hp'])) hb (by simpa using hn) hset (by
       intro i' j' x' b hx' hb';have hj:j'<e:=Ka hx' hset.row;rw[UL (by omega)]at hx';by_cases hii:i'=i
       .simp only[if_pos hii]at hb';exact⟨t3 j' b (by omega) hb',fun r hr=>t4 j' r b (by omega) hr hb',fun id hid hbe=>t5 j' id (by omega) hid (hbe▸hb')⟩
       .rw[if_neg hii]at hx';simp only[if_neg hii]at hb';exact(hl _ _ _ b hx' hb').tg htaken)
      refine⟨g2,htaken.trans r1,r2,c',f',cells',?_,r3,r4⟩;have hcell:cells.size=xs.length*e:=by rw[<-BC];exact hC.len
      have hmul:(i+1)*e<=xs.length*e:=AV _ (by omega);rw[A3,Cl]at hmul;simp only[AF,Instr.fill];rw[if_neg (by simp[hsz];omega)];exact hfill
     .cases hb
    .cases hb
   .cases hb
theorem vY{P:Program}{t el:TypeId}{i:TypeInfo}{z:Value}{n:Nat}{parts:Array (Nat×Value)}{cells':Array Value}(ht:P.underlying t=some (.slice el))(hi:P.info? el=some i)(hz:i.zero=some z)(hn:n*i.size<=16777216)
 (hfill:Instr.fill (fun k=>some (k*i.size,i.size)) (madeCells z.cells (n*i.size)) parts.toList=some cells') :
 (Instr.buildSlice t n parts).run P w=.ok (.slice (some ⟨w.heap.size,0,none⟩) n n) (World.push w (.cells cells' el (0,0))):=by
 have hsz:=Fv (P:=P) (w:=w) hi;have hlim:¬(n*i.size>2 ^ 24):=by omega
 unfold Instr.buildSlice;unfold madeCells at hfill;have hzv:(zeroValue el).run P w=.ok z w:=by simp[zeroValue,typeInfo,hi,hz,go_sem]
 have e0:∀f:Nat->Value,Array.map f (Array.range 0)=#[]:=fun f=>by simp
 generalize Value.cells=C at hfill ⊢;by_cases h0:n*i.size=0
 .rw[h0,e0]at hfill;simp only[Sem.run_bind,run_underlying ht,hsz,h0,Result.andThen,e0,hfill,if_true,Sem.run_pure,newRow];simp[hfill,e0,go_sem];rfl
 .simp only[Sem.run_bind,run_underlying ht,hsz,if_neg hlim,if_neg h0,hzv,Result.andThen,hfill,Sem.run_pure,newRow];simp[hfill,go_sem];rfl
theorem TB(h:Inv F S g a w){d n:Nat}{t el:TypeId}{zs:List T}{ps:Array (Nat×Operand)}{qs:List (Nat×Opd)}(hd:d<F.N)(hev:ev (.Bp d n zs qs) S=some S')(hu:F.P.underlying t=some (.slice el))(he:EL F.P t zs.length=true)
 (hz:o7 F.P el zs=true) (hp:Od ps.toList qs=true) (hm:∀p∈Lx ps.toList qs,Mt F.A F.P p.1 p.2) :
 ∃v w' g',(Instr.buildSlice t n (ps.map fun (i,x)=>(i,a.eval x))).run F.P w=.ok v w'/\Inv F S' g' (a.put (some d) v) w'/\∀b,b<w.heap.size->w'.heap[b]?=w.heap[b]?:=by
 simp only[ev]at hev;split at hev
 .rename_i hlim;split at hev
  .rename_i S1 ys hbs;obtain⟨i,z,hi,hzv,his,hzsz,hzc⟩:=Y5 (w:=w) hz;have hC0:Bo w zs.length (rowsOf n zs) (fun i j=>((madeCells z.cells (n*zs.length))[i*zs.length+j]?).getD undef) (fun _ _ _=>False) (madeCells z.cells (n*zs.length)).toList:=by
    refine⟨by simp[madeCells,rowsOf],by intro row hr;simp[rowsOf]at hr;rw[hr.2],?_,by simp⟩;intro i j x hx;obtain⟨hi,hj⟩:=Um hx;obtain⟨v,hv',hs⟩:=hzc j x hj;have hm:=O1 (n:=n) hv' hi;rw[hzsz]at hm;rw[Cc,hm];exact⟨rfl,hs⟩
   obtain⟨g2,hT,hyl,c',f',cells',hfill,hC,hl⟩:=AJV ps.toList qs S S1 g _ ys _ _ (madeCells z.cells (n*zs.length)) h hp hm hbs (by simp[rowsOf]) hC0 (fun _ _ _ _ _ hb=>hb.elim);have hrun:=vY (P:=F.P) (w:=w) (n:=n) (parts:=ps.map fun p=>(p.1,a.eval p.2)) (cells':=cells') hu hi hzv (by rw[his];exact hlim) (by rw[his,Array.toList_map];exact hfill);have hblt:∀i j x b,at2 ys i j=some x->f' i j b->b<w.heap.size:=fun i j x b hx hb=>Own.lt (hC.cell i j x hx).2 b hb
   have hO:=hC.own (w':=World.push w (.cells cells' el (0,0))) (blk:=w.heap.size) (off:=0) (cap:=n) (arr:=cells') (E:=el) (.of I8) (by omega) (by
    have:=hC.len;rw[hyl,BC]at this;omega) (by intro k v hk;rw[Ai];simpa using hk) (fun i j x hx hb=>absurd (hblt i j x _ hx hb) (by omega)) (fun i j x b hx hb=>Dx (hblt i j x b hx hb))
   obtain⟨g',hG⟩:=hT.inv.UY hd hev Still.push (fun b hb _=>Dx hb) hO (by
    rintro b (rfl|⟨i,j,x,hx,hb⟩)
    .exact .inl (AT _)
    .exact .inr (hl i j x b hx hb))
   rw[hyl]at hG;exact⟨_,_,g',hrun,hG,fun b hb=>Dx hb⟩
  .cases hev
 .cases hev
end
section
variable{F:Fix}{S S' S1:St}{g g':Gh}{a a':Act}{w w':World}
theorem J3{xs:List (List T)}{n i j:Nat}{x:T}(h:at2 (xs.take n) i j=some x):i<n/\at2 xs i j=some x:=by
 have:=Kb (lo:=0) (xs:=xs) (n:=n) (i:=i) (j:=j) (by simpa using h);simpa using this
theorem LG{xs:List (List T)}{n i j:Nat}{x:T}(h:at2 (xs.drop n) i j=some x):at2 xs (n+i) j=some x:=by
 grind[at2]
theorem wD{P:Program}{B:Blk}{e n:Nat}{ys:List (List T)}{v:Value}(hV:View w B (.sl e ys) v)(hf:E3 ys=true)(hn:n<=ys.length) :
 ∃c vs,Bo w e (ys.take n) c (fun _ _ _=>False) vs/\(∀w',(Builtin.lenOf v).run P w'=.ok ys.length w')/\(Builtin.firstCells e n v).run P w=.ok vs.toArray w:=by
 cases hV with
 |sc h=>exact h.elim|nl=>
  refine⟨fun _ _=>undef,[],⟨by simp,by simp,by simp[at2],by simp[at2]⟩,fun w'=>by simp[Builtin.lenOf],run_firstCells_none ..⟩
 |@sl _ _ a len cap c h1 h2 h3 h4 h5 h6=>
  subst h1;obtain⟨vs,hC⟩:∃vs,Bo w e (ys.take n) c (fun _ _ _=>False) vs:=⟨_,Bo.read (fun row hr=>h3 row (List.mem_of_mem_take hr)) (fun i j x hx=>Jz (h6 i j x (J3 hx).2) (MR hf (J3 hx).2)) (by simp)⟩;refine⟨c,_,hC,fun w'=>by simp[Builtin.lenOf],?_⟩;refine run_firstCells_some (P:=P) w e n a _ cap _ (by rw[hC.len,List.length_take,C1 hn]) ?_;intro k u hk;have hlt:k<(ys.take n).length*e:=by rw[<-hC.len];exact(AJ.1 hk).1
  have he:0<e:=by
   rcases G7 e with h0|h0
   .subst h0;simp at hlt
   .exact h0
  obtain⟨x,hx⟩:=J2 hC.row ((CC he).2 hlt) (DR k he);obtain⟨q1,_⟩:=hC.cell _ _ _ hx;rw[EW,Ec,hk]at q1;cases q1;have hx':=(J3 hx).2;have hne:ys≠[]:=by rintro rfl;simp[at2]at hx'
  obtain⟨hs,_⟩:=h4 hne;obtain⟨blk,off,sp⟩:=a
  grind[Nat.add_assoc,Nat.mul_comm,Nat.div_add_mod,FE]
theorem vH(h:Inv F S g a w){d e:Nat}{t u ty:TypeId}{oa ob:Operand}{x y:Opd}(hd:d<F.N)(hev:ev (.cpy d e x y) S=some S')(hoa:Bh oa x=true)(hob:Bh ob y=true)
 (hma:∀p∈Bk oa x,Mt F.A F.P p.1 p.2) (hmb:∀p∈Bk ob y,Mt F.A F.P p.1 p.2) (he:EL F.P t e=true) :
 ∃v w' g',(Builtin.copy_ #[t,u] ty #[a.eval oa,a.eval ob]).run F.P w=.ok v w'/\Inv F S' g' (a.put (some d) v) w'/\∀b,b<w.heap.size->(∀l r,S.one x=some l->l.BX=some r->¬g.fp r b)->w'.heap[b]?=w.heap[b]?:=by
 obtain⟨el,ti,hu,hti,hsz,_,hpos⟩:=Et he;simp only[ev]at hev;split at hev
 .rename_i r ly hx hy;split at hev
  .rename_i e' xs ys hr hys;split at hev
   .rename_i hc;obtain⟨rfl,hwide,hfy,hfx,hne0⟩:=hc;obtain⟨hlx,_⟩:=Ft h hx hoa hma;obtain⟨hly,_⟩:=Ft h hy hob hmb;obtain⟨x0,u0,q1,q2,q3⟩:=hlx;rw[hr]at q1;cases q1;have hv:a.eval oa=u0:=q3;obtain⟨u',hu',hown⟩:=h.CL r _ hr;rw[q2]at hu';cases hu';have hfp:=hown;cases hown with
    |sc hh _ _=>exact hh.elim|nl=>simp at hne0|@sl _ _ blk off len cap arr E _ c f k1 k2 k3 k4 k5 k6 k7 k8 k9 k10=>
     subst k1;have hsrc:∃c' vs,Bo w e' (ys.take (min ys.length xs.length)) c' (fun _ _ _=>False) vs/\(∀w1,(Builtin.lenOf (a.eval ob)).run F.P w1=.ok ys.length w1)/\(Builtin.firstCells e' (min ys.length xs.length) (a.eval ob)).run F.P w=.ok vs.toArray w:=by
      rcases PJ h hly hys with ⟨rfl,hv⟩|⟨e2,hV,hw2⟩
      .rw[hv];exact⟨fun _ _=>undef,[],by simpa using (Bo.nil (w:=w) (e:=e')),fun _=>by simp[Builtin.lenOf],by simp[Builtin.firstCells]⟩
      .have:=hw2 _ hwide;subst this;exact wD hV hfy (Nat.min_le_left _ _)
     obtain⟨c',vs,hC,hlen,hfirst⟩:=hsrc;generalize hn:min ys.length xs.length=n at *;have hnx:n<=xs.length:=by omega
     have hny:n<=ys.length:=by omega
     have hnl:(ys.take n).length=n:=by simp;omega
     have hvl:vs.length=n*e':=by rw[hC.len,hnl]
     obtain⟨us,hD⟩:∃us,Bo w e' (xs.drop n) (fun i j=>c (n+i) j) (fun _ _ _=>False) us:=⟨_,Bo.read (fun row hr=>k3 row (List.mem_of_mem_drop hr)) (fun i j x hx=>Jz (k7 _ _ _ (LG hx)).view (MR hfx (LG hx))) (by simp)⟩;have hA:=hC.app hD (by simp);have hmul:n*e'<=xs.length*e':=AV _ hnx;have hmul2:xs.length*e'<=cap*e':=AV _ k2;have hfit:off+vs.length<=arr.size:=by omega
     have hst:=EG (P:=F.P) (o:=off) k4 hfit hC.one;have hzl:(ys.take n++xs.drop n).length=xs.length:=by simp;omega
     have hO:=hA.own (cap:=cap) (off:=off) (w':=w.setRow blk (arr.toList.take off++vs++arr.toList.drop (off+vs.length)).toArray) (k4.set (by simp;omega)) (by rw[hzl];exact k2) (by simp;omega) (by
      intro k v hk;have hgen:=Ez arr.toList off vs (by simpa using hfit) (off+k);rw[Jw _ _ _ (by simpa using hfit)]at hgen;simp only[A0];rw[hgen];by_cases hk':k<vs.length
      .rw[Ar hk']at hk;rw[if_pos (by omega),<-hk];congr 1;omega
      .rw[An (by omega)]at hk;rw[if_neg (by omega)];have hlt:k-vs.length<(xs.drop n).length*e':=by rw[<-hD.len];exact(AJ.1 hk).1
       obtain⟨x,hx⟩:=J2 hD.row ((CC hpos).2 hlt) (DR (k-vs.length) hpos);obtain⟨p1,_⟩:=hD.cell _ _ _ hx;rw[EW,Ec,hk]at p1;cases p1;have:=k6 _ _ _ (LG hx);rw[Cc,<-this];have e1:=Ec (k-vs.length) e';have e2:(n+(k-vs.length) / e')*e'=n*e'+e'*((k-vs.length) / e'):=by rw[A3,EW ((k-vs.length) / e')]
       congr 1;omega) (fun i j x hx hb=>by simp at hb) (fun i j x b hx hb=>by simp at hb)
     have hO':=hO.congr (S':=fun b=>b=blk) (by intro b;simp);have hblk:g.fp r blk:=(k10 blk).2 (.inl rfl);rw[hzl]at hO';obtain⟨g1,hg1⟩:=h.AG5 (ys:=ys.take n++xs.drop n) (fp':=fun b=>b=blk) hr q2 hzl (w':=w.setRow blk (arr.toList.take off++vs++arr.toList.drop (off+vs.length)).toArray)
      Still.setRow (fun b _ hb=>setRow_other (by rintro rfl;exact hb hblk)) hO'
      (fun b hb=>by subst hb;exact h.Fa r ⟨_,hr⟩ _ hblk) (fun r' hr' hne b hb=>by subst hb;exact h.dis r r' ⟨_,hr⟩ hr' (Ne.symm hne) _ hblk) (fun id hid hb=>h.EO r id ⟨_,hr⟩ hid (by rw[hb];exact hblk))
     have htk:ys.take xs.length++xs.drop ys.length=ys.take n++xs.drop n:=by
      rw[<-hn];rcases Nat.le_total ys.length xs.length with hh|hh
      .rw[C1 hh,As hh,As (AT _)]
      .rw[Nat.min_eq_right hh,A1 hh,A1 (AT _)]
     rw[htk]at hev;obtain⟨g2,hg2⟩:=Ie (v:=.int .i64 (n:Nat)) hg1 hd hev rfl;refine⟨_,_,g2,?_,hg2,fun b _ hb=>setRow_other (by rintro rfl;exact hb _ r hx rfl hblk)⟩;rw[hv];unfold Builtin.copy_;have hs2:=Fv (P:=F.P) (w:=w) hti;rw[hsz]at hs2;have hmin:Nat.min ys.length xs.length=n:=hn;have hl1:=hlen w;simp only[Am,AM,AQ,Ai,Nat.reduceAdd,A0,AI,Be];generalize a.eval ob=vb at hl1 hfirst ⊢;generalize Builtin.lenOf=L at hl1 ⊢;generalize Builtin.firstCells=FC at hfirst ⊢;simp[run_underlying hu,hl1,hmin,hs2,hfirst,hst,goInt,go_sem]
   .cases hev
  .cases hev
 .cases hev
end
section
variable{F:Fix}{S S':St}{g g':Gh}{a a':Act}{w w':World}
theorem Inv.ALw(h:Inv F S g a w){r:Bj}{xs ys:List (Int×Int)}{u:Value}{fp':Blk}(hx:S.at r=some (.ow (.mp xs)))(hu:g.rv r=some u)
 (hs:Still w w') (hw:∀b,b<w.heap.size->¬g.fp r b->w'.heap[b]?=w.heap[b]?) (hown:Own w' (.mp ys) u fp') (hK:∀b,fp' b->¬F.K b)
 (hdis:∀r',Bl S r'->r'≠r->∀b,fp' b->¬g.fp r' b) (hB:∀id,(get S.bx id).isSome->¬fp' (g.β id)) :
 Inv F ((S.BT r (.ow (.mp ys))).kill (EE r)) { g with fp:=fun r'=>if r'=r then fp' else g.fp r'} a w':=by
 have hat:∀r',((S.BT r (.ow (.mp ys))).kill (EE r)).at r'=(if r'=r then some (.ow (.mp ys)) else S.at r').map fun l=>if EE r l then .t .top else l:=by
  intro r';rw[F7,Es hx]
 have hal:∀r',Bl ((S.BT r (.ow (.mp ys))).kill (EE r)) r'->Bl S r':=by
  rintro r' ⟨x,hx'⟩;rw[hat,AG]at hx';obtain⟨l,hl1,hl2⟩:=hx';split at hl2
  .cases hl2
  .subst hl2;split at hl1
   .subst_vars;exact⟨_,hx⟩
   .exact⟨x,hl1⟩
 have hsome:∀id,(get ((S.BT r (.ow (.mp ys))).kill (EE r)).bx id).isSome->(get S.bx id).isSome:=by
  intro id hid;simp only[St.kill,CZ,Option.isSome_map]at hid
  rwa[C6]at hid
 have hKw:∀b,F.K b->w'.heap[b]?=w.heap[b]?:=fun b hb=>hw b (Az (h.rlt b hb) h.size) fun hf=>h.Fa r ⟨_,hx⟩ b hf hb
 have hfw:∀r',Bl S r'->r'≠r->∀b,g.fp r' b->w'.heap[b]?=w.heap[b]?:=by
  rintro r' ⟨x,hx'⟩ hne b hb;obtain⟨v,_,hok⟩:=h.CL r' _ hx';exact hw b (Own.lt hok b hb) (h.dis r' r ⟨x,hx'⟩ ⟨_,hx⟩ hne b hb)
 let g':Gh:={ g with fp:=fun r'=>if r'=r then fp' else g.fp r'}
 have hg'r:g'.fp r=fp':=by simp[g']
 have hg'o:∀r',r'≠r->g'.fp r'=g.fp r':=fun r' hne=>by simp[g',hne]
 have tr:∀{fp:Blk} {l:AN} {v:Value},EE r l=false->(∀x,l≠.ow x)->BR F S g w fp l v->BR F ((S.BT r (.ow (.mp ys))).kill (EE r)) g' w' fp l v:=by
  intro fp l v hin hno hok;by_cases hr:l.BX=some r
  .match l,hok with
   |.al r1 sub,⟨x,u1,h1,h2,h3⟩=>
    cases hr;rw[hx]at h1;cases h1;refine⟨.mp ys,u1,by rw[hat,if_pos rfl];rfl,h2,?_⟩;cases sub with
    |none=>exact h3|some p=>exact h3
   |.ep r1 i j,⟨e1,xs1,blk,off,len,cap,h1,h2,h3,h4⟩=>
    cases hr;rw[hx]at h1;cases h1
   |.vw (.own r1 _) e1 xs1,_=>cases hr;simp[EE]at hin
   |.vp (.own r1 _) cs1,_=>cases hr;simp[EE]at hin
  .refine BR.any hno ((BR.any (fp':=fun _=>False) hno hok).tr ?_ (fun _ _=>rfl) (fun _ h=>h.elim) hKw);intro r1 hr1;obtain⟨x,hx1⟩:=hok.alive hr1;have hne:r1≠r:=by rintro rfl;exact hr hr1
   refine⟨?_,rfl,fun b hb=>by rw[hg'o r1 hne];exact hb,hfw r1 ⟨x,hx1⟩ hne⟩;rw[hat,if_neg hne,hx1];rfl
 show Inv F _ g' a w';refine { CL:=?_,tms:=?_,bxs:=?_,dis:=?_,EO:=?_,Fa:=?_,E8:=fun id id' h1 h2=>h.E8 id id' (hsome id h1) (hsome id' h2),bxR:=fun id h1=>h.bxR id (hsome id h1),EM:=fun b hb=>(hKw b hb).trans (h.EM b hb),rlt:=h.rlt,still:=h.still.trans hs,defs:=h.defs,tsz:=h.tsz,pin:=?_}
 .intro r' l hl;rw[hat,AG]at hl;obtain⟨l0,hl1,hl2⟩:=hl;by_cases hr:r'=r
  .subst hr;rw[if_pos rfl]at hl1;cases hl1;simp only[EE,if_false,A7]at hl2;subst hl2;exact⟨u,hu,by rw[hg'r];exact hown⟩
  .rw[if_neg hr]at hl1;obtain⟨v,hv,hok⟩:=h.CL r' l0 hl1;refine⟨v,hv,?_⟩;split at hl2
   .subst hl2;exact BR.top
   .rename_i hin;subst hl2;by_cases how:∃x,l0=.ow x
    .obtain⟨x,rfl⟩:=how;rw[hg'o r' hr];exact Own.frame hok (hfw r' ⟨x,hl1⟩ hr)
    .have hno:∀x,l0≠.ow x:=fun x hx=>how ⟨x,hx⟩
     exact BR.any hno (tr (by simpa using hin) hno hok)
 .intro s e' he;simp only[St.kill,Dz,AG]at he;obtain⟨e1,he1,rfl⟩:=he;obtain⟨e0,h1,h2,h3⟩:=KT he1;obtain⟨p1,p2,p3⟩:=h.tms s e0 h1;exact⟨p1,by rw[p2,h2],by rw[p3,D1,h3]⟩
 .intro id ls' hls;simp only[St.kill,CZ,AG]at hls;obtain⟨l1,hl1,rfl⟩:=hls;obtain⟨l0,h1,h2⟩:=HU hl1;obtain⟨⟨E,hE⟩,p2⟩:=h.bxs id l0 h1;refine⟨⟨E,(hw _ (Aj.1 hE).1 fun hf=>h.EO r id ⟨_,hx⟩ (by simp[h1]) hf).trans hE⟩,by rw[p2,D1,h2]⟩
 .intro r1 r2 h1 h2 hne b hb hb';by_cases e1:r1=r
  .subst e1;rw[hg'r]at hb;rw[hg'o r2 (Ne.symm hne)]at hb';exact hdis r2 (hal r2 h2) (Ne.symm hne) b hb hb'
  .rw[hg'o r1 e1]at hb;by_cases e2:r2=r
   .subst e2;rw[hg'r]at hb';exact hdis r1 (hal r1 h1) e1 b hb' hb
   .rw[hg'o r2 e2]at hb';exact h.dis r1 r2 (hal r1 h1) (hal r2 h2) hne b hb hb'
 .intro r1 id h1 hid hb;by_cases e1:r1=r
  .subst e1;rw[hg'r]at hb;exact hB id (hsome id hid) hb
  .rw[hg'o r1 e1]at hb;exact h.EO r1 id (hal r1 h1) (hsome id hid) hb
 .intro r1 h1 b hb;by_cases e1:r1=r
  .subst e1;rw[hg'r]at hb;exact hK b hb
  .rw[hg'o r1 e1]at hb;exact h.Fa r1 (hal r1 h1) b hb
 .intro p hp;have hpp:p∈S.pin:=by
   have:((S.BT r (.ow (.mp ys))).kill (EE r)).pin=S.pin:=Fz
   rwa[this]at hp
  obtain⟨h1,h2⟩:=h.pin p hpp;exact⟨h1,fun hs=>h2 (hsome p hs)⟩
theorem AMq{es:Array MapEntry}{ks:List (Int×Int)}(h:es.toList.map XQ=ks.map Yl):es.size=ks.length:=by
 have:=congrArg List.length h;simpa using this
theorem Sa(n m:Int):∀{es:List MapEntry} {ks:List (Int×Int)} (i:Nat),es.map XQ=ks.map Yl ->
 (Instr.findNow (.int .i64) (.int .i64 n) es i=some none/\JJ ks n=0/\HC ks n m=ks++[(n,m)]) \/
 ∃j e,Instr.findNow (.int .i64) (.int .i64 n) es i=some (some (i+j,e.val))/\es[j]?=some e/\e.key=.int .i64 n/\e.val=.int .i64 (JJ ks n) /\
  (es.modify j fun e=>{ e with key:=.int .i64 n,val:=.int .i64 m}).map XQ=(HC ks n m).map Yl
 | [],[],i,h=>.inl ⟨rfl,rfl,rfl⟩|e::es,(k,v)::ks,i,h=>by
  simp only[AF,B0]at h;obtain⟨h1,h2⟩:=h;have hk:e.key=.int .i64 k:=congrArg Prod.fst h1;have hv:e.val=.int .i64 v:=congrArg Prod.snd h1;by_cases hn:n=k
  .subst hn;refine .inr ⟨0,e,?_,rfl,hk,?_,?_⟩
   .simp[Instr.findNow,Instr.sameNow,hk]
   .simp[JJ,hv]
   .simp[HC,h2,XQ,Yl]
  .have hs:Instr.findNow (.int .i64) (.int .i64 n) (e::es) i=Instr.findNow (.int .i64) (.int .i64 n) es (i+1):=by
    grind[Instr.findNow,Instr.sameNow]
   rcases Sa n m (i+1) h2 with ⟨q1,q2,q3⟩|⟨j,e',q1,q2,q3,q4,q5⟩
   .exact .inl ⟨by rw[hs,q1],by simp[JJ,hn,q2],by simp[HC,hn,q3]⟩
   .refine .inr ⟨j+1,e',by rw[hs,q1,show i+1+j=i+(j+1) by omega],by simpa using q2,q3,by simp[JJ,hn,q4],?_⟩;simp[HC,hn,q5,h1]
 | [],_::_,_,h=>by simp at h|_::_,[],_,h=>by simp at h
theorem bm{P:Program}{t:TypeId}(h:MZ P t=true):∃k e i,P.underlying t=some (.map k e)/\P.underlying k=some (.int .i64)/\P.info? e=some i/\i.zero=some (.int .i64 0):=by
 grind[MZ,isInt]
theorem n7(h:Inv F S g a w){o:Operand}{x:Opd}{r:Bj}{ks:List (Int×Int)}(hx:S.N2 x=some (r,ks))(ho:Bh o x=true)(hm:∀p∈Bk o x,Mt F.A F.P p.1 p.2) :
 ∃blk es clock,a.eval o=.map (some blk)/\S.at r=some (.ow (.mp ks))/\g.rv r=some (.map (some blk))/\w.heap[blk]?=some (.map es clock)/\es.toList.map XQ=ks.map Yl/\g.fp r blk/\S.one x=some (.al r none):=by
 unfold St.N2 at hx;split at hx
 .rename_i r0 h1;split at hx
  .rename_i ks0 h2;cases hx;obtain⟨hl,_⟩:=Ft h h1 ho hm;obtain⟨x0,u0,q1,q2,q3⟩:=hl;rw[h2]at q1;cases q1;have hv:a.eval o=u0:=q3;obtain⟨u',hu',hown⟩:=h.CL r _ h2;rw[q2]at hu';cases hu';have hO:Own w (.mp ks) u0 (g.fp r):=hown;cases hO with
   |sc hh _ _=>exact hh.elim|mp hM hS=>
    obtain⟨es,clock,p1,p2⟩:=hM
    grind
  .cases hx
 .cases hx
theorem vL(h:Inv F S g a w){d:Nat}{t:TypeId}(hd:d<F.N)(hev:ev (.mmk d) S=some S') :
 ∃v w' g',(Instr.makeMap t none).run F.P w=.ok v w'/\Inv F S' g' (a.put (some d) v) w'/\∀b,b<w.heap.size->w'.heap[b]?=w.heap[b]?:=by
 simp only[ev]at hev;obtain⟨g',hg⟩:=h.newRow (w':=World.push w (.map #[] 0)) (v:=.map (some w.heap.size)) (S0:=fun b=>b=w.heap.size) hd hev Still.push (fun b hb=>Dx hb)
  (.mp ⟨#[],0,I8,rfl⟩ fun b=>Iff.rfl) (fun b hb=>.inl (by omega))
 exact⟨_,_,g',rfl,hg,fun b hb=>Dx hb⟩
theorem gO(h:Inv F S g a w){d:Nat}{t:TypeId}{om ok:Operand}{x k:Opd}(hd:d<F.N)(hev:ev (.Oq d x k) S=some S')(ht:MZ F.P t=true)(hom:Bh om x=true)(hok:Bh ok k=true)
 (hmm:∀p∈Bk om x,Mt F.A F.P p.1 p.2) (hmk:∀p∈Bk ok k,Mt F.A F.P p.1 p.2) :
 ∃v g',(Instr.lookup t (a.eval om) (a.eval ok) false).run F.P w=.ok v w/\Inv F S' g' (a.put (some d) v) w:=by
 simp only[ev]at hev;split at hev
 .rename_i r ks n hx hk;obtain⟨blk,es,clock,e1,e2,e3,e4,e5,e6,e7⟩:=n7 h hx hom hmm;have ek:a.eval ok=.int .i64 n:=L7 h hk hok hmk;obtain⟨kt,et,i,u1,u2,u3,u4⟩:=bm ht;obtain⟨g',hg⟩:=Ie (v:=.int .i64 (JJ ks n)) h hd hev rfl;refine⟨_,g',?_,hg⟩;rw[e1,ek];have hz:(zeroValue et).run F.P w=.ok (.int .i64 0) w:=by simp[zeroValue,typeInfo,u3,u4,go_sem]
  have hck:=fun b=>MapKept.run_checkKey (P:=F.P) (w:=w) u2 (show MapKept.IsKey (.int .i64) (.int .i64 n) from (rfl:IntKind.i64=IntKind.i64)) b 9999
  rcases Sa n 0 0 e5 with ⟨q1,q2,q3⟩|⟨j,e',q1,q2,q3,q4,q5⟩
  .simp[Instr.lookup,run_underlying u1,MapKept.run_getObj_map e4,hck,MapKept.run_findKey u2 q1,hz,q2,Result.andThen,go_sem]
  .simp[Instr.lookup,run_underlying u1,MapKept.run_getObj_map e4,hck,MapKept.run_findKey u2 q1,q4,Result.andThen,go_sem]
 .cases hev
theorem AMp(h:Inv F S g a w){d:Nat}{t ty:TypeId}{o:Operand}{x:Opd}(hd:d<F.N)(hev:ev (.AMo d x) S=some S')(ht:MZ F.P t=true)(ho:Bh o x=true)(hm:∀p∈Bk o x,Mt F.A F.P p.1 p.2) :
 ∃v g',(Builtin.len_ #[t] ty #[a.eval o]).run F.P w=.ok v w/\Inv F S' g' (a.put (some d) v) w:=by
 simp only[ev]at hev;split at hev
 .rename_i r ks hx;obtain⟨blk,es,clock,e1,e2,e3,e4,e5,e6,e7⟩:=n7 h hx ho hm;obtain⟨kt,et,i,u1,u2,u3,u4⟩:=bm ht;obtain⟨g',hg⟩:=Ie (v:=.int .i64 (ks.length:Nat)) h hd hev rfl;refine⟨_,g',?_,hg⟩;rw[e1,run_len_map (w:=w) t ty blk es clock (by simp[Program.mapKeyOf,Program.mapElemOf,u1]) e4,AMq e5];rfl
 .cases hev
theorem Still.ALG{b:Nat}{es es':Array MapEntry}{c c':Nat}(h:w.heap[b]?=some (.map es c)):Still w { w with heap:=w.heap.setIfInBounds b (.map es' c')}:=by
 refine⟨by simp,rfl,rfl,fun a _=>?_⟩
 grind[World.frozen?,MapKept.heap_set]
theorem gR(h:Inv F S g a w){t:TypeId}{om ok ov:Operand}{x k v:Opd}(hev:ev (.N3 x k v) S=some S')(ht:MZ F.P t=true)(hom:Bh om x=true)(hok:Bh ok k=true)(hov:Bh ov v=true)
 (hmm:∀p∈Bk om x,Mt F.A F.P p.1 p.2) (hmk:∀p∈Bk ok k,Mt F.A F.P p.1 p.2) (hmv:∀p∈Bk ov v,Mt F.A F.P p.1 p.2) :
 ∃w' g',(Instr.mapUpdate t (a.eval om) (a.eval ok) (a.eval ov)).run F.P w=.ok () w'/\Inv F S' g' a w'/\∀b,b<w.heap.size->(∀l r,S.one x=some l->l.BX=some r->¬g.fp r b)->w'.heap[b]?=w.heap[b]?:=by
 simp only[ev]at hev;split at hev
 .rename_i r ks n m hx hk hv;obtain⟨blk,es,clock,e1,e2,e3,e4,e5,e6,e7⟩:=n7 h hx hom hmm;have ek:a.eval ok=.int .i64 n:=L7 h hk hok hmk;have evv:a.eval ov=.int .i64 m:=L7 h hv hov hmv;obtain⟨kt,et,i,u1,u2,u3,u4⟩:=bm ht;cases hev;have hck:=fun b=>MapKept.run_checkKey (P:=F.P) (w:=w) u2 (show MapKept.IsKey (.int .i64) (.int .i64 n) from (rfl:IntKind.i64=IntKind.i64)) b 9999
  have main:∃es' clock',(Instr.mapUpdate t (a.eval om) (a.eval ok) (a.eval ov)).run F.P w=.ok () { w with heap:=w.heap.setIfInBounds blk (.map es' clock')}/\es'.toList.map XQ=(HC ks n m).map Yl:=by
   rw[e1,ek,evv];rcases Sa n m 0 e5 with ⟨q1,q2,q3⟩|⟨j,e',q1,q2,q3,q4,q5⟩
   .refine⟨_,_,by simp[Instr.mapUpdate,run_underlying u1,MapKept.run_getObj_map e4,hck,MapKept.run_findKey u2 q1,MapKept.run_setObj_map _ e4,Result.andThen];rfl,?_⟩;rw[q3];simp[e5,XQ,Yl]
   .have hj:es[j]?=some e':=by simpa using q2
    have hkk:(MapKept.IsKey (.int .i64) (.int .i64 n)):=(rfl:IntKind.i64=IntKind.i64);refine⟨_,_,by simp[Instr.mapUpdate,run_underlying u1,MapKept.run_getObj_map e4,hck,MapKept.run_findKey u2 q1,hj,q3,MapKept.run_keyThatStays hkk,MapKept.run_setObj_map _ e4,Result.andThen];rfl,?_⟩;simpa using q5
  obtain⟨es',clock',hrun,hes⟩:=main;obtain⟨hs1,hs2⟩:=MapKept.heap_set (o':=Obj.map es' clock') e4;refine⟨_,_,hrun,h.ALw e2 e3 (fp':=fun b=>b=blk) (Still.ALG e4) (fun b _ hb=>hs2 b (by rintro rfl;exact hb e6)) (.mp ⟨es',clock',hs1,hes⟩ fun b=>Iff.rfl)
   (fun b hb=>by subst hb;exact h.Fa r ⟨_,e2⟩ _ e6) (fun r' hr' hne b hb=>by subst hb;exact h.dis r r' ⟨_,e2⟩ hr' (Ne.symm hne) _ e6) (fun id hid hb=>h.EO r id ⟨_,e2⟩ hid (by rw[hb];exact e6)),fun b _ hb=>hs2 b (by rintro rfl;exact hb _ r e7 rfl e6)⟩
 .cases hev
end
section
variable{F:Fix}{S S' S1:St}{g g':Gh}{a a':Act}{w w':World}
def AHJ:Op->Option Operand|.load _ a=>some a|.convert _ _ a=>some a|_=>none
def Tch(S:St)(g:Gh)(x:XOp)(b:Nat):Prop:=
 match x with
 |.st _ p _=>ALW S g p b|x=>match x.wr with|some y=>∃l r,S.one y=some l/\l.BX=some r/\g.fp r b|none=>False
def Did(F:Fix)(S S':St)(g:Gh)(a:Act)(o:Oper)(w:World)(x:XOp):Prop:=
 match JI x with
 |.pure=>∃v g',(∀w1,(execOp a.eval o).run F.P w1=.ok (.value v) w1)/\Inv F S' g' (a.put o.dst v) w|.ld=>∃v g' y,AHJ o.op=some y/\(∀w1,ADG (a.eval y) w w1->(execOp a.eval o).run F.P w1=.ok (.value v) w1)/\Inv F S' g' (a.put o.dst v) w|.eff=>∃n v w' g',(execOp a.eval o).run F.P w=.ok n w'/\(n=.value v\/(n=.skip/\v=undef))/\Inv F S' g' (a.put o.dst v) w'/\∀b,b<w.heap.size->¬Tch S g x b->w'.heap[b]?=w.heap[b]?
theorem Co{N:Nat}{x:XOp}{dst:Option Nat}{d:Nat}(h:(match x.XN,dst with|some d,some d'=>d==d'&&fW d N|none,none=>true|_,_=>false)=true)(hd:x.XN=some d):dst=some d/\d<N:=by
 grind[fW]
theorem AJf(h:Inv F S g a w){o:Oper}{x:XOp}(hok:Pm F.P F.N o.dst o.op x=true)(hm:∀p∈DI o.op x,Mt F.A F.P p.1 p.2)(hev:ev x S=some S'):Did F S S' g a o w x:=by
 obtain⟨dst,op,ty,pos,after,guard⟩:=o;dsimp only at hok hm;simp only[Pm,AD]at hok;obtain⟨hdst,hok⟩:=hok;split at hok
 .rename_i y d b;obtain⟨rfl,hd⟩:=Co hdst rfl;obtain⟨g',hg⟩:=AFd h hd hev hok hm;exact⟨a.eval y,g',fun w1=>by simp[execOp,Sem.run_pure],hg⟩
 .rename_i y d b;obtain⟨rfl,hd⟩:=Co hdst rfl;obtain⟨g',hg⟩:=AFY h hd hev hok hm;exact⟨a.eval y,g',fun w1=>by simp[execOp,Sem.run_pure],hg⟩
 .rename_i c y z d c' y' z';obtain⟨rfl,hd⟩:=Co hdst rfl;simp only[AD]at hok;simp only[DI,B8]at hm;obtain⟨t,g',ht,hg⟩:=gT h hd hev hok.1.1 hok.1.2 hok.2 (fun p hp=>hm p (by simp[hp])) (fun p hp=>hm p (by simp[hp])) (fun p hp=>hm p (by simp[hp]));exact⟨if t then a.eval y else a.eval z,g',fun w1=>by simp only[execOp,Sem.run_bind,ht,asBool,Sem.run_pure,Result.andThen],hg⟩
 .rename_i t d zs;obtain⟨rfl,hd⟩:=Co hdst rfl;obtain⟨v,w',g',hr,hg,hfr⟩:=Ye h hd hev hok;exact⟨.value v,v,w',g',by simp only[execOp,Sem.run_bind,hr,Result.andThen,Sem.run_pure],.inl rfl,hg,fun b hb _=>hfr b hb⟩
 .rename_i t y d b;obtain⟨rfl,hd⟩:=Co hdst rfl;obtain⟨v,w',g',hr,hg,hfr⟩:=vF (t:=t) h hd hev hok hm;exact⟨.value v,v,w',g',by simp only[execOp,Sem.run_bind,hr,Result.andThen,Sem.run_pure],.inl rfl,hg,fun b hb _=>hfr b hb⟩
 .rename_i t ps d zs qs;obtain⟨rfl,hd⟩:=Co hdst rfl;simp only[AD]at hok;obtain⟨h1,h2⟩:=hok;split at h2
  .rename_i fs hu;simp only[AD]at h2;obtain⟨v,g',hr,hg⟩:=Yf h hd hev h1 hu h2.1 h2.2 hm;exact⟨v,g',fun w1=>by simp only[execOp,Sem.run_bind,hr,Result.andThen,Sem.run_pure],hg⟩
  .cases h2
 .rename_i t n ps d n' zs qs;obtain⟨rfl,hd⟩:=Co hdst rfl;simp only[AD,beq_iff_eq]at hok;obtain⟨⟨⟨rfl,h1⟩,h2⟩,h3⟩:=hok;split at h2
  .rename_i el hu;obtain⟨v,w',g',hr,hg,hfr⟩:=TB h hd hev hu h1 h2 h3 hm;exact⟨.value v,v,w',g',by simp only[execOp,Sem.run_bind,hr,Result.andThen,Sem.run_pure],.inl rfl,hg,fun b hb _=>hfr b hb⟩
  .cases h2
 .rename_i t y d n b;obtain⟨rfl,hd⟩:=Co hdst rfl;simp only[AD]at hok;obtain⟨v,g',hr,hg⟩:=AFc h hd hev hok.1 hok.2 hm;exact⟨v,g',y,rfl,fun w1 hw1=>by have hr:=hr w1 hw1;simp only[execOp,Sem.run_bind,hr,Result.andThen,Sem.run_pure],hg⟩
 .rename_i t y z n y' z';have hdn:dst=none:=by
   cases dst with
   |none=>rfl|some d=>simp[XOp.XN]at hdst
  subst hdn;simp only[AD]at hok;obtain⟨⟨h1,h2⟩,h3⟩:=hok;split at h1
  .rename_i i hi;obtain⟨w',g',hr,hg,hfr⟩:=AFe h hev hi (by simpa using h1) h2 h3 (fun p hp=>hm p (by simp[DI,hp])) (fun p hp=>hm p (by simp[DI,hp]));exact⟨.skip,undef,w',g',by simp only[execOp,Sem.run_bind,hr,Result.andThen,Sem.run_pure],.inr ⟨rfl,rfl⟩,hg,fun b _ hb=>hfr b hb⟩
  .cases h1
 .rename_i y d b;obtain⟨rfl,hd⟩:=Co hdst rfl;obtain⟨ad,g',hr,hg⟩:=vG h hd hev hok hm;exact⟨a.eval y,g',fun w1=>by simp only[execOp,hr,Sem.run_pure],hg⟩
 .rename_i op t y z t2 d c op' y' z';obtain⟨rfl,hd⟩:=Co hdst rfl;simp only[AD,decide_eq_true_eq]at hok;obtain⟨⟨⟨rfl,h1⟩,h2⟩,h3⟩:=hok;obtain⟨v,g',hr,hg⟩:=vE h hd hev h3 h1 h2 (fun p hp=>hm p (by simp[DI,hp])) (fun p hp=>hm p (by simp[DI,hp]));exact⟨v,g',fun w1=>by have hr:=hr w1;simp only[Sem.run_bind,Result.andThen]at hr;simp only[execOp,Sem.run_bind,Result.andThen,hr,Sem.run_pure],hg⟩
 .rename_i op t y d op' b;obtain⟨rfl,hd⟩:=Co hdst rfl;simp only[AD,decide_eq_true_eq]at hok;obtain⟨rfl,h1⟩:=hok;obtain⟨v,g',hr,hg⟩:=AFf h hd hev h1 hm;exact⟨v,g',fun w1=>by simp only[execOp,Sem.run_bind,hr,Result.andThen,Sem.run_pure],hg⟩
 .rename_i s t y d k b;obtain⟨rfl,hd⟩:=Co hdst rfl;simp only[AD]at hok;obtain⟨v,g',hr,hg⟩:=vI (s:=s) h hd hev hok.1.1 hm hok.1.2 hok.2;exact⟨v,g',fun w1=>by simp only[execOp,Sem.run_bind,hr,Result.andThen,Sem.run_pure],hg⟩
 .rename_i s t y d b;obtain⟨rfl,hd⟩:=Co hdst rfl;simp only[AD]at hok;obtain⟨v,w',g',hr,hg,hfr⟩:=gK h hd hev hok.1.1 hm hok.1.2 hok.2;exact⟨.value v,v,w',g',by simp only[execOp,Sem.run_bind,hr,Result.andThen,Sem.run_pure],.inl rfl,hg,fun b hb _=>hfr b hb⟩
 .rename_i s t y d b;obtain⟨rfl,hd⟩:=Co hdst rfl;simp only[AD]at hok;obtain⟨v,g',hr,hg⟩:=gJ h hd hev hok.1.1 hm hok.1.2 hok.2;exact⟨v,g',y,rfl,fun w1 hw1=>by have hr:=hr w1 hw1;simp only[execOp,Sem.run_bind,hr,Result.andThen,Sem.run_pure],hg⟩
 .rename_i fn first caps d f caps'
  obtain⟨rfl,hd⟩:=Co hdst rfl;simp only[AD,Array.isEmpty_iff]at hok;obtain⟨rfl,h1⟩:=hok;obtain⟨g',hg⟩:=gP h hd hev h1 (fun p hp=>hm p (by simp[DI,hp])) (hm (fn,f) (by simp[DI]));exact⟨.func (.func fn) #[] (caps.map a.eval),g',fun w1=>by simp[execOp,Instr.makeFunc,Sem.run_pure,go_sem],hg⟩
 .rename_i t n c d zs n' c';obtain⟨rfl,hd⟩:=Co hdst rfl;simp only[AD]at hok;obtain⟨⟨⟨h1,h2⟩,h3⟩,h4⟩:=hok;split at h2
  .rename_i el hu;obtain⟨v,w',g',hr,hg,hfr⟩:=gQ h hd hev h1 hu h2 h3 h4 (fun p hp=>hm p (by simp[DI,hp])) (fun p hp=>hm p (by simp[DI,hp]));exact⟨.value v,v,w',g',by simp only[execOp,Sem.run_bind,hr,Result.andThen,Sem.run_pure],.inl rfl,hg,fun b hb _=>hfr b hb⟩
  .cases h2
 .rename_i t y lo hi mx d e b lo' hi';obtain⟨rfl,hd⟩:=Co hdst rfl;simp only[AD,Ds]at hok;obtain⟨⟨⟨⟨h1,h2⟩,h3⟩,rfl⟩,h5⟩:=hok;obtain⟨v,g',hr,hg⟩:=vM h hd hev h5 h1 h2 h3 (fun p hp=>hm p (by simp[DI,hp])) (fun p hp=>hm p (by simp[DI,hp])) (fun p hp=>hm p (by simp[DI,hp]));exact⟨v,g',fun w1=>by simp only[execOp,Sem.run_bind,F5,hr,Result.andThen,Sem.run_pure],hg⟩
 .rename_i t y lo hi mx d b lo' hi';obtain⟨rfl,hd⟩:=Co hdst rfl;simp only[AD,Ds]at hok;obtain⟨⟨⟨⟨h1,h2⟩,h3⟩,rfl⟩,h5⟩:=hok;obtain⟨v,g',hr,hg⟩:=gU h hd hev h5 h1 h2 h3 (fun p hp=>hm p (by simp[DI,hp])) (fun p hp=>hm p (by simp[DI,hp])) (fun p hp=>hm p (by simp[DI,hp]));exact⟨v,g',fun w1=>by simp only[execOp,Sem.run_bind,F5,hr,Result.andThen,Sem.run_pure],hg⟩
 .rename_i t y f d off b;obtain⟨rfl,hd⟩:=Co hdst rfl;simp only[AD]at hok;obtain⟨v,g',hr,hg⟩:=AFZ h hd hev hok.1 hok.2 hm;exact⟨v,g',fun w1=>by simp only[execOp,Sem.run_bind,hr,Result.andThen,Sem.run_pure],hg⟩
 .rename_i t y i d e b i';obtain⟨rfl,hd⟩:=Co hdst rfl;simp only[AD]at hok;obtain⟨⟨h1,h2⟩,h3⟩:=hok;obtain⟨v,g',hr,hg⟩:=AFa h hd hev h1 h2 h3 (fun p hp=>hm p (by simp[DI,hp])) (fun p hp=>hm p (by simp[DI,hp]));exact⟨v,g',fun w1=>by simp only[execOp,Sem.run_bind,hr,Result.andThen,Sem.run_pure],hg⟩
 .rename_i t y i d b i';obtain⟨rfl,hd⟩:=Co hdst rfl;simp only[AD]at hok;obtain⟨⟨h1,h2⟩,h3⟩:=hok;obtain⟨v,g',hr,hg⟩:=AFb h hd hev h1 h2 h3 (fun p hp=>hm p (by simp[DI,hp])) (fun p hp=>hm p (by simp[DI,hp]));exact⟨v,g',fun w1=>by simp only[execOp,Sem.run_bind,hr,Result.andThen,Sem.run_pure],hg⟩
 .rename_i t y i d b i';obtain⟨rfl,hd⟩:=Co hdst rfl;simp only[AD,beq_iff_eq]at hok;obtain⟨h1,rfl⟩:=hok;obtain⟨v,g',hr,hg⟩:=vJ h hd hev h1;exact⟨v,g',fun w1=>by simp only[execOp,Sem.run_bind,hr,Result.andThen,Sem.run_pure],hg⟩
 .simp[ev]at hev
 .simp[ev]at hev
 .rename_i args ats d b;obtain⟨rfl,hd⟩:=Co hdst rfl;split at hok
  .rename_i y t e1 e2;obtain rfl:args=#[y]:=Bd.1 e1;obtain rfl:ats=#[t]:=Bd.1 e2;simp only[AD]at hok;obtain⟨v,g',hr,hg⟩:=vK (ty:=ty) h hd hev hok.2 hok.1 (fun p hp=>hm p (by simp[DI,Dw,hp]));exact⟨v,g',fun w1=>by simp only[execOp,resolve,invoke,builtin,Sem.run_bind,Sem.run_pure,Result.andThen,Cs,AF,A6,hr],hg⟩
  .cases hok
 .rename_i args ats d b;obtain⟨rfl,hd⟩:=Co hdst rfl;split at hok
  .rename_i y t e1 e2;obtain rfl:args=#[y]:=Bd.1 e1;obtain rfl:ats=#[t]:=Bd.1 e2;simp only[AD]at hok;obtain⟨v,g',hr,hg⟩:=gM (ty:=ty) h hd hev hok.2 hok.1 (fun p hp=>hm p (by simp[DI,Dw,hp]));exact⟨v,g',fun w1=>by simp only[execOp,resolve,invoke,builtin,Sem.run_bind,Sem.run_pure,Result.andThen,Cs,AF,A6,hr],hg⟩
  .cases hok
 .rename_i args ats d e fl x' y';obtain⟨rfl,hd⟩:=Co hdst rfl;split at hok
  .rename_i y z t u e1 e2;obtain rfl:args=#[y,z]:=Bd.1 e1;obtain rfl:ats=#[t,u]:=Bd.1 e2;simp only[AD]at hok;obtain⟨⟨⟨⟨h1,h2⟩,h3⟩,h4⟩,h5⟩:=hok;split at h4
   .rename_i el hu;have h6:∃dd,F.P.underlying u=some dd/\(dd=.string\/∃e',dd=.slice e'):=by
     split at h5
     .rename_i el' hu';exact⟨_,hu',.inr ⟨_,rfl⟩⟩
     .rename_i hu';exact⟨_,hu',.inl rfl⟩
     .cases h5
    obtain⟨dd,hdd1,hdd2⟩:=h6;obtain⟨v,w',g',hr,hg,hfr⟩:=vD (ty:=ty) h hd hev h1 h2 (fun p hp=>hm p (by simp[DI,Dw,hp])) (fun p hp=>hm p (by simp[DI,Dw,hp])) h3 hu h4 hdd1 hdd2;exact⟨.value v,v,w',g',by simp only[execOp,resolve,invoke,builtin,Sem.run_bind,Sem.run_pure,Result.andThen,Cs,AF,A6,hr],.inl rfl,hg,fun b hb hT=>hfr b hb fun l r h1 h2 h3=>hT ⟨l,r,h1,h2,h3⟩⟩
   .cases h4
  .cases hok
 .rename_i args ats d zs x' y';obtain⟨rfl,hd⟩:=Co hdst rfl;split at hok
  .rename_i y z t u e1 e2;obtain rfl:args=#[y,z]:=Bd.1 e1;obtain rfl:ats=#[t,u]:=Bd.1 e2;simp only[AD]at hok;obtain⟨⟨⟨⟨h1,h2⟩,h3⟩,h4⟩,h5⟩:=hok;split at h4
   .rename_i el hu;split at h5
    .rename_i k0 hu2;simp only[AD]at h4;obtain⟨v,w',g',hr,hg,hfr⟩:=gH (ty:=ty) h hd hev h1 h2 (fun p hp=>hm p (by simp[DI,Dw,hp])) (fun p hp=>hm p (by simp[DI,Dw,hp])) h3 hu h4.2 h4.1 hu2;exact⟨.value v,v,w',g',by simp only[execOp,resolve,invoke,builtin,Sem.run_bind,Sem.run_pure,Result.andThen,Cs,AF,A6,hr],.inl rfl,hg,fun b hb hT=>hfr b hb fun l r h1 h2 h3=>hT ⟨l,r,h1,h2,h3⟩⟩
    .cases h5
   .cases h4
  .cases hok
 .rename_i args ats d e x' y';obtain⟨rfl,hd⟩:=Co hdst rfl;split at hok
  .rename_i y z t u e1 e2;obtain rfl:args=#[y,z]:=Bd.1 e1;obtain rfl:ats=#[t,u]:=Bd.1 e2;simp only[AD]at hok;obtain⟨⟨⟨h1,h2⟩,h3⟩,h4⟩:=hok;obtain⟨v,w',g',hr,hg,hfr⟩:=vH (t:=t) (u:=u) (ty:=ty) h hd hev h1 h2 (fun p hp=>hm p (by simp[DI,Dw,hp])) (fun p hp=>hm p (by simp[DI,Dw,hp])) h3;exact⟨.value v,v,w',g',by simp only[execOp,resolve,invoke,builtin,Sem.run_bind,Sem.run_pure,Result.andThen,Cs,AF,A6,hr],.inl rfl,hg,fun b hb hT=>hfr b hb fun l r h1 h2 h3=>hT ⟨l,r,h1,h2,h3⟩⟩
  .cases hok
 .rename_i t r d;obtain⟨rfl,hd⟩:=Co hdst rfl;simp only[AD,Ds]at hok;obtain⟨rfl,_⟩:=hok;obtain⟨v,w',g',hr,hg,hfr⟩:=vL (t:=t) h hd hev;exact⟨.value v,v,w',g',by simp only[execOp,F5,Sem.run_bind,hr,Result.andThen,Sem.run_pure],.inl rfl,hg,fun b hb _=>hfr b hb⟩
 .rename_i t y z okk d m' k';obtain⟨rfl,hd⟩:=Co hdst rfl;simp only[AD,Bool.not_eq_true']at hok;obtain⟨⟨⟨rfl,h1⟩,h2⟩,h3⟩:=hok;obtain⟨v,g',hr,hg⟩:=gO (t:=t) h hd hev h1 h2 h3 (fun p hp=>hm p (by simp[DI,hp])) (fun p hp=>hm p (by simp[DI,hp]));exact⟨.value v,v,w,g',by simp only[execOp,Sem.run_bind,hr,Result.andThen,Sem.run_pure],.inl rfl,hg,fun b hb _=>rfl⟩
 .rename_i t y z u m' k' v';have hdn:dst=none:=by
   cases dst with
   |none=>rfl|some d=>simp[XOp.XN]at hdst
  subst hdn;simp only[AD]at hok;obtain⟨⟨⟨h1,h2⟩,h3⟩,h4⟩:=hok;obtain⟨w',g',hr,hg,hfr⟩:=gR (t:=t) h hev h1 h2 h3 h4 (fun p hp=>hm p (by simp[DI,hp])) (fun p hp=>hm p (by simp[DI,hp])) (fun p hp=>hm p (by simp[DI,hp]));exact⟨.skip,undef,w',g',by simp only[execOp,Sem.run_bind,hr,Result.andThen,Sem.run_pure],.inr ⟨rfl,rfl⟩,hg,fun b hb hT=>hfr b hb fun l r h1 h2 h3=>hT ⟨l,r,h1,h2,h3⟩⟩
 .rename_i args ats d b;obtain⟨rfl,hd⟩:=Co hdst rfl;split at hok
  .rename_i y t e1 e2;obtain rfl:args=#[y]:=Bd.1 e1;obtain rfl:ats=#[t]:=Bd.1 e2;simp only[AD]at hok;obtain⟨v,g',hr,hg⟩:=AMp (ty:=ty) h hd hev hok.2 hok.1 (fun p hp=>hm p (by simp[DI,Dw,hp]));exact⟨.value v,v,w,g',by simp only[execOp,resolve,invoke,builtin,Sem.run_bind,Sem.run_pure,Result.andThen,Cs,AF,A6,hr],.inl rfl,hg,fun b hb _=>rfl⟩
  .cases hok
 .rename_i args ats d x' y';obtain⟨rfl,hd⟩:=Co hdst rfl;split at hok
  .rename_i y z e1;obtain rfl:args=#[y,z]:=Bd.1 e1;simp only[AD]at hok;obtain⟨v,g',hr,hg⟩:=zu (m:=true) (ts:=ats) (t:=ty) h hd hev hok.1 hok.2 (fun p hp=>hm p (by simp[DI,Dw,hp])) (fun p hp=>hm p (by simp[DI,Dw,hp]));simp only[if_true]at hr;exact⟨v,g',fun w1=>by simp only[execOp,resolve,invoke,builtin,Sem.run_bind,Sem.run_pure,Result.andThen,Cs,AF,A6,hr],hg⟩
  .cases hok
 .rename_i args ats d x' y';obtain⟨rfl,hd⟩:=Co hdst rfl;split at hok
  .rename_i y z e1;obtain rfl:args=#[y,z]:=Bd.1 e1;simp only[AD]at hok;obtain⟨v,g',hr,hg⟩:=zu (m:=false) (ts:=ats) (t:=ty) h hd hev hok.1 hok.2 (fun p hp=>hm p (by simp[DI,Dw,hp])) (fun p hp=>hm p (by simp[DI,Dw,hp]));simp only[A7,if_false]at hr;exact⟨v,g',fun w1=>by simp only[execOp,resolve,invoke,builtin,Sem.run_bind,Sem.run_pure,Result.andThen,Cs,AF,A6,hr],hg⟩
  .cases hok
 .simp[ev]at hev
 .cases hok
end
section
variable{F:Fix}{S S' S1:St}{g g':Gh}{a a':Act}{w w':World}
theorem Did.eff{o:Oper}{x:XOp}(hd:Did F S S' g a o w x):∃n v w' g',(execOp a.eval o).run F.P w=.ok n w'/\(n=.value v\/(n=.skip/\v=undef))/\Inv F S' g' (a.put o.dst v) w'/\∀b,b<w.heap.size->¬Tch S g x b->w'.heap[b]?=w.heap[b]?:=by
 unfold Did at hd;split at hd
 .obtain⟨v,g',h1,h2⟩:=hd;exact⟨_,v,w,g',h1 w,.inl rfl,h2,fun _ _ _=>rfl⟩
 .obtain⟨v,g',y,_,h1,h2⟩:=hd;exact⟨_,v,w,g',h1 w (fun _ _=>rfl),.inl rfl,h2,fun _ _ _=>rfl⟩
 .exact hd
theorem Did.wp{o:Oper}{x:XOp}(hd:Did F S S' g a o w x){next:Act->World->Prop}{Q:Exit->Act->World->Prop}(hn:∀g' v w',Inv F S' g' (a.put o.dst v) w'->next (a.put o.dst v) w'):o.wp F.P a w next Q:=by
 obtain⟨n,v,w',g',h1,h2,h3,_⟩:=hd.eff
 grind[Oper.wp,Oper.upon]
theorem hH(h:Inv F S g a w){o:Oper}{x:XOp}(hok:Pm F.P F.N o.dst o.op x=true)(hs:JB x S=some S'):∃g',Inv F S' g' (a.put o.dst undef) w:=by
 obtain⟨dst,op,ty,pos,after,guard⟩:=o;dsimp only at hok ⊢;simp only[Pm,AD]at hok;obtain⟨hdst,_⟩:=hok;unfold JB at hs;cases hx:x.XN with
 |some d=>
  obtain⟨rfl,hd⟩:=Co hdst hx;simp only[hx]at hs;refine h.DJ (vs:=[undef]) (nf:=fun _ _=>False) hs hd (Cells.free rfl ?_ (by simp));intro c l hl;cases c with
  |zero=>simp only[AI,AB]at hl;subst hl;exact⟨undef,rfl,rfl⟩|succ c=>simp at hl
 |none=>
  simp only[hx,AB]at hs;subst hs;have hdn:dst=none:=by
   grind
  subst hdn;exact⟨g,h⟩
theorem Ta(h:Inv F S g a w){ops:Array Oper}{o:Oper}{gd:Option (Nat×Bool)}{b:Bool}(hok:Kk ops o.guard gd=true)(hw:wanted S gd=some b):Region.wanted o (yielded ops a.tmps)=b:=by
 unfold Region.wanted;unfold Kk at hok;split at hok
 .rename_i h1;simp only[wanted,AB]at hw;rw[h1];exact hw
 .rename_i j want s want' h1;rw[h1];simp only[AD,beq_iff_eq]at hok;obtain⟨rfl,hok⟩:=hok;split at hok
  .rename_i oj hoj;simp only[decide_eq_true_eq]at hok;simp only[wanted]at hw;split at hw
   .rename_i bb hs;simp only[AB]at hw;obtain⟨hlt,hv,hl⟩:=h.tms s _ hs;obtain⟨v,hv0,hok0⟩:=h.CL (.tmp s 0) (.t (.bool bb)) (by simp[St.at,hs]);have hvb:v=.bool bb:=hok0;have hg:g.tv s=[.bool bb]:=by
     match hgt:g.tv s,hl with
     | [y],_=>simp[Gh.rv,hgt]at hv0;rw[hv0,hvb]
    have ht:a.tmps[s]?=some (.bool bb):=by
     have h2:s<a.tmps.size:=by rw[h.tsz];exact hlt
     have h3:a.tmps.getD s undef=.bool bb:=by rw[hv,hg];rfl
     rw[FF h2];simp only[Array.getD,h2,dif_pos]at h3;exact congrArg some h3
    simp only[yielded,hoj,Hj,hok,ht];rw[<-hw];cases bb<;>cases want<;>rfl
   .rename_i hs;simp only[AB]at hw;obtain⟨hlt,hv,hl⟩:=h.tms s _ hs;obtain⟨v,hv0,hok0⟩:=h.CL (.tmp s 0) .und (by simp[St.at,hs]);have hvb:v=undef:=hok0;have hg:g.tv s=[undef]:=by
     match hgt:g.tv s,hl with
     | [y],_=>simp[Gh.rv,hgt]at hv0;rw[hv0,hvb]
    have ht:a.tmps[s]?=some undef:=by
     have h2:s<a.tmps.size:=by rw[h.tsz];exact hlt
     have h3:a.tmps.getD s undef=undef:=by rw[hv,hg];rfl
     rw[FF h2];simp only[Array.getD,h2,dif_pos]at h3;exact congrArg some h3
    simp only[yielded,hoj,Hj,hok,ht];rw[<-hw];rfl
   .cases hw
  .cases hok
 .cases hok
end
end Lv
