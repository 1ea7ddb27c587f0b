/- The light machine is right about the program's code. -/
import Derived.Test.YtpbbmlmilagnkaaGreatLvA
import Derived.WalkKit
import Derived.Laws.Concat
import Derived.Laws.StructEq
import Derived.Lib.SliceRun
import Derived.Laws.Cover3
import Derived.Laws.Tables
import Derived.Laws.MakeOwn
import Derived.Lib.ConvBytes
import Derived.Laws.BytesString
set_option linter.unusedVariables false
set_option linter.unusedSimpArgs false
set_option linter.unusedSectionVars false
open Array renaming getElem?_eq_some_iff->Aj,length_toList->BC,size_map->IA,toArray_toList->Gb
open Bool renaming and_eq_true->AD,not_eq_true->Df,not_eq_true'->A8,or_eq_true->B6
open List renaming drop_drop->CX,flatMap_cons->CP,getElem?_cons_succ->Be,getElem?_cons_zero->AI,getElem?_drop->BU,getElem?_eq_some_iff->AJ,getElem?_map->Ak,getElem?_of_mem->BE,getElem?_take->Bb,getElem?_toArray->A0,headD_cons->DL,length_nil->AQ,mem_cons->Af,mem_cons_of_mem->Au,mem_map->DC,mem_of_getElem?->AX,mem_of_mem_drop->Cn,mem_of_mem_take->Gf,size_toArray->Am,take_succ_cons->Gq
open Nat renaming add_assoc->CB,add_mul->A3,add_zero->CO,le_refl->AT,mul_le_mul_right->AV,one_mul->Cl,zero_add->Ai,zero_le->EB
open Option renaming isSome_iff_exists->BG,map_eq_some_iff->AG,map_some->Ab
open Option.some renaming injEq->AB
namespace Lv
open Go
def Hu:Value->Option Nat|.pointer (some a)=>some a.block|.slice (some a) _ _=>some a.block|_=>none
def ADG(v:Value)(w w1:World):Prop:=∀b,Hu v=some b->w1.heap[b]?=w.heap[b]?
def Rd(F:Fix)(S:St)(g:Gh)(w:World)(e:Ent)(v:Value):Prop:=
 ∃vs,v=mkV e.sh vs/\vs.length=e.cs.length/\(∀x,AN.ow x∉e.cs)/\∀(c:Nat) (l:AN),e.cs[c]?=some l->∃u,vs[c]?=some u/\BR F S g w (fun _=>False) l u
section
variable{F:Fix}{S S':St}{g g':Gh}{a a':Act}{w w':World}
theorem P6(s:Nat)(cs:List AN)(o c:Nat):(NJ s o cs)[c]?=(cs[c]?).map (AN.ali s (o+c)):=by
 induction cs generalizing o c with
 |nil=>simp[NJ]|cons l ls ih=>
  grind[NJ,List.getElem?_cons_succ]
theorem iw(s:Nat)(cs:List AN)(o:Nat):(NJ s o cs).length=cs.length:=by
 induction cs generalizing o with
 |nil=>rfl|cons l ls ih=>simp[NJ,ih]
theorem ADN{s c:Nat}{l:AN}{x:T}:l.ali s c≠.ow x:=by cases l<;>simp[AN.ali]
theorem AId{a b:T}(h:AIc a b=true):a=b:=by
 cases a<;>cases b<;>simp_all[AIc]
theorem QE{v:Value}{x:T}(h:ML v x=true):Sc x v:=by
 unfold ML at h;split at h
 .rename_i y hy;have:=AId h;subst this;unfold tOf at hy;split at hy<;>simp at hy<;>subst hy<;>simp[Sc]
 .cases h
theorem ADM{r:Bj}{l:AN}{v:Value}{s c:Nat}(hr:r=.tmp s c)(hs:S.at r=some l)(hv:g.rv r=some v)(hok:BR F S g w (g.fp r) l v) :
 BR F S g w (fun _=>False) (l.ali s c) v:=by
 subst hr;by_cases how:∃x,l=.ow x
 .obtain⟨x,rfl⟩:=how;exact⟨x,v,hs,hv,rfl⟩
 .have:l.ali s c=l:=by cases l<;>first|rfl|exact(how ⟨_,rfl⟩).elim
  grind[BR.any]
theorem Kt(h:Inv F S g a w){o:Operand}{x:Opd}{e:Ent}(hrd:S.rd x=some e)(ho:Bh o x=true)(hm:∀p∈Bk o x,Mt F.A F.P p.1 p.2):Rd F S g w e (a.eval o):=by
 match o,x,ho with
 |.tmp t,.tmp t',ho=>
  simp only[Bh,beq_iff_eq]at ho;subst ho;simp only[St.rd]at hrd;split at hrd
  .rename_i e0 he0;cases hrd;obtain⟨_,h2,h3⟩:=h.tms t e0 he0;refine⟨g.tv t,h2,by simp[iw,h3],?_,?_⟩
   .intro x hx;obtain⟨c,hc⟩:=BE hx;rw[P6,AG]at hc;obtain⟨l,_,hl⟩:=hc;exact ADN hl
   .intro c l hl;rw[P6,AG]at hl;obtain⟨l0,hl0,rfl⟩:=hl;have hat:S.at (.tmp t c)=some l0:=by simp[St.at,he0,hl0]
    obtain⟨v,hv,hok⟩:=h.CL _ _ hat;exact⟨v,hv,by simpa using ADM rfl hat hv hok⟩
  .cases hrd
 |.const v,.k x,ho=>
  simp only[St.rd,AB]at hrd;subst hrd;refine⟨[v],rfl,rfl,by cases x<;>simp[bj],?_⟩;intro c l hl;cases c with
  |zero=>
   simp only[AI,AB]at hl;subst hl;refine⟨v,rfl,?_⟩;simp only[Bh,B6]at ho;rcases ho with ho|ho
   .have hs:=QE ho;cases x<;>first|exact hs|exact hs.elim
   .unfold zq at ho;split at ho
    .exact View.nl
    .cases ho
  |succ c=>simp at hl
 |.func f,.fn g1,ho=>
  simp only[St.rd,AB]at hrd;subst hrd;refine⟨[.func (.func f) #[] #[]],rfl,rfl,by simp,?_⟩;intro c l hl;cases c with
  |zero=>
   simp only[AI,AB]at hl;subst hl;exact⟨_,rfl,f,#[],rfl,hm (f,g1) (by simp[Bk]),rfl,by simp⟩
  |succ c=>simp at hl
theorem Rd.cells{e:Ent}{v:Value}(h:Rd F S g w e v):∃vs,v=mkV e.sh vs/\Cells F S g w e.cs vs fun _ _=>False:=by
 obtain⟨vs,h1,h2,h3,h4⟩:=h;exact⟨vs,h1,Cells.free h2 h4 h3⟩
theorem Cells.one{l:AN}{v:Value}(hn:∀x,l≠.ow x)(h:BR F S g w (fun _=>False) l v):Cells F S g w [l] [v] fun _ _=>False:=by
 grind[Cells.free,List.getElem?_cons_zero,Option.some.injEq,List.mem_singleton]
theorem Ie(h:Inv F S g a w){d:Nat}{x:T}{v:Value}(hd:d<F.N)(hp:S.DJ d ⟨.one,[.t x]⟩=some S')(hs:Sc x v):∃g',Inv F S' g' (a.put (some d) v) w:=
 h.DJ (vs:=[v]) hp hd (Cells.one (by simp) hs)
theorem Ly(h:Inv F S g a w){d:Nat}{l:AN}{v:Value}(hd:d<F.N)(hp:S.DJ d ⟨.one,[l]⟩=some S')(hn:∀x,l≠.ow x)(hs:BR F S g w (fun _=>False) l v):∃g',Inv F S' g' (a.put (some d) v) w:=
 h.DJ (vs:=[v]) hp hd (Cells.one hn hs)
theorem L7(h:Inv F S g a w){o:Operand}{x:Opd}{t:T}(hs:S.sc x=some t)(ho:Bh o x=true)(hm:∀p∈Bk o x,Mt F.A F.P p.1 p.2):Sc t (a.eval o):=by
 unfold St.sc at hs;cases hrd:S.rd x with
 |none=>simp[hrd,va]at hs|some e=>
  obtain⟨vs,h1,h2,h3,h4⟩:=Kt h hrd ho hm;rw[hrd]at hs;unfold va at hs;split at hs
  .rename_i x' heq;simp only[AB]at heq hs;subst heq hs;obtain⟨u,hu,hok⟩:=h4 0 _ rfl;rw[h1];cases vs with|nil=>simp at hu|cons v vs=>simp only[AI,AB]at hu;subst hu;exact hok
  .cases hs
theorem N5(h:Inv F S g a w){o:Operand}{x:Opd}{n:Int}(hs:S.nat x=some n)(ho:Bh o x=true)(hm:∀p∈Bk o x,Mt F.A F.P p.1 p.2):∃k,a.eval o=.int k n:=by
 unfold St.nat at hs;split at hs
 .rename_i k n' heq;cases hs;exact⟨k,L7 h heq ho hm⟩
 .cases hs
theorem Ft(h:Inv F S g a w){o:Operand}{x:Opd}{l:AN}(hs:S.one x=some l)(ho:Bh o x=true)(hm:∀p∈Bk o x,Mt F.A F.P p.1 p.2) :
 BR F S g w (fun _=>False) l (a.eval o)/\∀x,l≠.ow x:=by
 unfold St.one at hs;split at hs
 .rename_i l' heq;cases hs;obtain⟨vs,h1,h2,h3,h4⟩:=Kt h heq ho hm;obtain⟨u,hu,hok⟩:=h4 0 _ rfl;refine⟨?_,fun x hx=>h3 x (by simp[hx])⟩;rw[h1];cases vs with|nil=>simp at hu|cons v vs=>simp only[AI,AB]at hu;subst hu;exact hok
 .cases hs
theorem AFd(h:Inv F S g a w){d:Nat}{o:Operand}{x:Opd}(hd:d<F.N)(hev:ev (.mv d x) S=some S')(ho:Bh o x=true)(hm:∀p∈Bk o x,Mt F.A F.P p.1 p.2) :
 ∃g',Inv F S' g' (a.put (some d) (a.eval o)) w:=by
 simp only[ev]at hev;split at hev
 .rename_i e he;obtain⟨vs,h1,hc⟩:=(Kt h he ho hm).cells;rw[h1];exact h.DJ hev hd hc
 .cases hev
theorem Rx(h:Inv F S g a w){e:Ent}{v:Value}(hr:Rd F S g w e v){cs:List AN}(ht:IP S e.cs=some (S',cs)) :
 ∃vs nf,v=mkV e.sh vs/\Inv F S' g a w/\Cells F S' g w cs vs nf/\cs.length=e.cs.length:=by
 obtain⟨vs,h1,h2,h3,h4⟩:=hr;unfold IP at ht;split at ht
 .rename_i hok;obtain⟨t1,_,nf,t2,_⟩:=AHR h h3 h2 h4 hok ht;exact⟨vs,nf,h1,t1.inv,t2,t2.1.symm.trans h2⟩
 .cases ht
theorem AJ6(h:Inv F S g a w){e:Ent}{v:Value}(hr:Rd F S g w e v){x:Opd}{cs:List AN}(ht:c8 S x e.cs=some (S',cs)) :
 ∃vs nf,v=mkV e.sh vs/\Inv F S' g a w/\Cells F S' g w cs vs nf/\cs.length=e.cs.length:=by
 unfold c8 at ht;split at ht
 .split at ht
  .cases ht;obtain⟨vs,h1,hc⟩:=hr.cells
   grind
  .exact Rx h hr ht
 .exact Rx h hr ht
theorem AFY(h:Inv F S g a w){d:Nat}{o:Operand}{x:Opd}(hd:d<F.N)(hev:ev (.as d x) S=some S')(ho:Bh o x=true)(hm:∀p∈Bk o x,Mt F.A F.P p.1 p.2) :
 ∃g',Inv F S' g' (a.put (some d) (a.eval o)) w:=by
 simp only[ev]at hev;split at hev
 .rename_i e he;split at hev
  .rename_i S1 cs ht;obtain⟨vs,nf,h1,hi,hc,_⟩:=Rx h (Kt h he ho hm) ht;rw[h1];exact hi.DJ (e:=⟨e.sh,cs⟩) hev hd hc
  .cases hev
 .cases hev
theorem gT(h:Inv F S g a w){d:Nat}{oc oa ob:Operand}{c x y:Opd}(hd:d<F.N)(hev:ev (.pick d c x y) S=some S')(hoc:Bh oc c=true)(hoa:Bh oa x=true)(hob:Bh ob y=true)
 (hmc:∀p∈Bk oc c,Mt F.A F.P p.1 p.2) (hma:∀p∈Bk oa x,Mt F.A F.P p.1 p.2) (hmb:∀p∈Bk ob y,Mt F.A F.P p.1 p.2) :
 ∃t g',a.eval oc=.bool t/\Inv F S' g' (a.put (some d) (if t then a.eval oa else a.eval ob)) w:=by
 simp only[ev]at hev;split at hev
 .rename_i t ea eb hc hea heb;refine⟨t,?_⟩;have ht:a.eval oc=.bool t:=L7 h hc hoc hmc;cases t with
  |true=>
   obtain⟨vs,h1,hcc⟩:=(Kt h hea hoa hma).cells;obtain⟨g',hg⟩:=h.DJ (by simpa using hev) hd hcc
   grind
  |false=>
   obtain⟨vs,h1,hcc⟩:=(Kt h heb hob hmb).cells;obtain⟨g',hg⟩:=h.DJ (by simpa using hev) hd hcc;exact⟨g',ht,by simpa[h1] using hg⟩
 .cases hev
theorem ny(h:Inv F S g a w){fp:Blk}{l:AN}{v:Value}(hl:BR F S g w fp l v)(h1:l≠.t .top)(h2:l≠.und):v.oneCell'=true:=by
 match l,hl with
 |.t x,hl=>exact Sc.one hl (by cases x<;>first|rfl|exact(h1 rfl).elim)
 |.und,_=>exact(h2 rfl).elim|.ow x,hl=>exact Own.one hl|.al r sub,⟨x,u,h3,h4,h5⟩=>
  obtain⟨u',hu',hok⟩:=h.CL r _ h3;rw[h4]at hu';cases hu';obtain⟨_,_,ho⟩:=Mk hok h5;exact ho.one
 |.ep r i j,⟨e,xs,blk,off,len,cap,h3,h4,h5,h6⟩=>subst h6;rfl|.vw (.own r _) e xs,⟨_,⟨S0,_,ho⟩,_⟩=>exact ho.one|.vw (.old k) e xs,hl=>cases hl with|sc h=>exact h.elim|sl=>rfl|nl=>rfl
 |.vp (.own r _) cs,⟨_,a,c,f,h3,_⟩=>subst h3;rfl|.vp (.old k) cs,⟨a,c,h3,_⟩=>subst h3;rfl|.bp id off,hl=>have h':v=_:=hl;subst h';rfl|.fn f caps,⟨n,cv,h3,_⟩=>subst h3;rfl
end
section
variable{P:Program}{w:World}
theorem gp{t:TypeId}{i:TypeInfo}{v:Value}(hi:P.info? t=some i)(hz:i.zero=some v) :
 (Instr.alloc t true (.tuple #[])).run P w=.ok (.pointer (some ⟨w.heap.size,0,none⟩)) (World.push w (.cells v.cells t (0,0))):=by
 simp[Instr.alloc,zeroValue,typeInfo,hi,hz,newVar,newRow,go_sem];rfl
theorem vX{t:TypeId}{v:Value}:(Instr.box t v).run P w=.ok (.pointer (some ⟨w.heap.size,0,none⟩)) (World.push w (.cells v.cells t (0,0))):=by
 simp[Instr.box,newVar,newRow,go_sem];rfl
theorem Fv{t:TypeId}{i:TypeInfo}(hi:P.info? t=some i):(Go.sizeOf t).run P w=.ok i.size w:=by
 simp[Go.sizeOf,typeInfo,hi,go_sem]
theorem gy{t:TypeId}{b o:Nat}{d:TypeDesc}{v:Value}(hu:P.underlying t=some d)(hd:∀fs,d≠.struct fs)(hd':∀n e,d≠.array n e)(hc:w.cell? ⟨b,o,none⟩=some v) :
 (Instr.loadAt t (.pointer (some ⟨b,o,none⟩))).run P w=.ok v w:=by
 simp[Instr.loadAt,Instr.sureAddr,loadVar,isAgg,run_underlying hu,go_sem];cases d<;>simp_all[go_sem]
theorem gx{t:TypeId}{b o:Nat}{fs:Array Field}{i:TypeInfo}{vs:List Value}(hu:P.underlying t=some (.struct fs))(hi:P.info? t=some i)(hl:vs.length=i.size)
 (hc:∀(j:Nat) v,vs[j]?=some v->w.cell? ⟨b,o+j,none⟩=some v) :
 (Instr.loadAt t (.pointer (some ⟨b,o,none⟩))).run P w=.ok (.agg vs.toArray) w:=by
 have h:=run_loadCells_list (P:=P) (w:=w) ⟨b,o,none⟩ vs (by
  intro j v hj;have:=hc j v hj;unfold Addr.add;split
  .subst_vars;simpa using this
  .exact this)
 simp[Instr.loadAt,Instr.sureAddr,loadVar,isAgg,run_underlying hu,Fv hi,<-hl,go_sem];unfold loadCells at h;simp[h,go_sem]
theorem Rl{t:TypeId}{b o:Nat}{i:TypeInfo}{v:Value}{cur:Array Value}{E:TypeId}{e:Nat}(hi:P.info? t=some i)(hs:v.cells.size=i.size)(hb:D7 w b cur E e)
 (hle:o+v.cells.size<=cur.size) (h1:∀c∈v.cells.toList,c.oneCell'=true) :
 (Instr.storeAt t (.pointer (some ⟨b,o,none⟩)) v).run P w=.ok () (w.setRow b (cur.toList.take o++v.cells.toList++cur.toList.drop (o+v.cells.size)).toArray):=by
 have h:=EG (P:=P) (o:=o) (vs:=v.cells.toList) hb (by simpa using hle) h1;simp only[BC]at h;unfold Instr.storeAt storeVar;generalize v.cells=cs at *;simp[Instr.sureAddr,Fv hi,hs,h,go_sem]
theorem FE(b o n:Nat):(⟨b,o,none⟩:Addr).add n=⟨b,o+n,none⟩:=by
 grind[Addr.add]
theorem Y7{t:TypeId}{b o f:Nat}{fs:Array Field}{x:Field}{i:TypeInfo}(hu:P.underlying t=some (.struct fs))(hf:fs[f]?=some x)(hi:P.info? x.type=some i)(h0:0<i.size) :
 (Instr.fieldAt t (.pointer (some ⟨b,o,none⟩)) f).run P w=.ok (.pointer (some ⟨b,o+x.offset,none⟩)) w:=by
 have:i.size≠0:=by omega
 simp[Instr.fieldAt,Instr.sureAddr,fieldPlace,run_underlying hu,hf,Fv hi,this,FE,go_sem]
theorem Y8{t el:TypeId}{b o len cap:Nat}{k:IntKind}{n:Int}{i:TypeInfo}(hu:P.underlying t=some (.slice el))(hi:P.info? el=some i)(h0:0<=n)(h1:n<len) :
 (Instr.indexAt t (.slice (some ⟨b,o,none⟩) len cap) (.int k n)).run P w=.ok (.pointer (some ⟨b,o+n.toNat*i.size,none⟩)) w:=by
 simp[Instr.indexAt,asIntOf,run_underlying hu,Fv hi,h0,h1,FE,go_sem]
theorem gw{t:TypeId}{s:List UInt8}{k:IntKind}{n:Int}(hu:P.underlying t=some .string)(h0:0<=n)(h1:n<s.length) :
 (Instr.index t (.string ⟨s.toArray⟩) (.int k n)).run P w=.ok (.int .u8 (s.getD n.toNat 0).toNat) w:=by
 have hlt:n.toNat<s.length:=by omega
 have:(⟨s.toArray⟩:ByteArray)[n.toNat]?=some s[n.toNat]:=by
  grind[ByteArray.size,ByteArray.getElem_eq_getElem_data]
 simp[Instr.index,asIntOf,run_underlying hu,h0,List.getD,hlt,go_sem];rfl
end
section
variable{F:Fix}{S S':St}{g g':Gh}{a a':Act}{w w':World}
theorem qD{vs:List Value}{zs:List T}(h:ON vs zs=true):vs.length=zs.length/\∀(c:Nat) x,zs[c]?=some x->∃v,vs[c]?=some v/\Sc x v:=by
 induction vs generalizing zs with
 |nil=>cases zs<;>simp_all[ON]
 |cons v vs ih=>
  cases zs with
  |nil=>simp[ON]at h|cons z zs=>
   grind[ON,List.getElem?_cons_zero,Option.some.injEq,QE]
theorem zeroCells{t:TypeId}{zs:List T}(h:Tc F.P t zs=true):∃i v,F.P.info? t=some i/\i.zero=some v/\i.size=zs.length/\v.cells.toList.length=zs.length /\
 Cells F S g w (zs.map .t) v.cells.toList fun _ _=>False:=by
 unfold Tc at h;split at h
 .rename_i i hi;simp only[AD,beq_iff_eq]at h;obtain⟨h1,h2⟩:=h;split at h1
  .rename_i v hv;obtain⟨h3,h4⟩:=qD h1;refine⟨i,v,hi,hv,h2,h3,Cells.free (by simpa using h3) ?_ (by simp)⟩;intro c l hl;rw[Ak,AG]at hl;obtain⟨x,hx,rfl⟩:=hl;obtain⟨u,hu,hs⟩:=h4 c x hx;exact⟨u,hu,hs⟩
  .cases h1
 .cases h
theorem AIq(q:AN->Bool)(hq:∀x,q (.t x)=false)(zs:List T):DS q (zs.map .t)=zs.map .t:=by
 induction zs with
 |nil=>rfl|cons z zs ih=>simp[DS,hq,ih]
theorem Ye(h:Inv F S g a w){d:Nat}{t:TypeId}{zs:List T}(hd:d<F.N)(hev:ev (.alloc d zs) S=some S')(hz:Tc F.P t zs=true) :
 ∃v w' g',(Instr.alloc t true (.tuple #[])).run F.P w=.ok v w'/\Inv F S' g' (a.put (some d) v) w'/\∀b,b<w.heap.size->w'.heap[b]?=w.heap[b]?:=by
 simp only[ev]at hev;split at hev
 .cases hev
 .rename_i hp;cases hev;obtain⟨i,v,hi,hv,_,_,hc⟩:=zeroCells (F:=F) (S:=S) (g:=g) (w:=w) hz;obtain⟨g',hg⟩:=h.AFM hd hp hc t;rw[AIq _ (fun _=>rfl)]at hg;refine⟨_,_,g',gp hi hv,?_,fun b hb=>Dx hb⟩;rw[Gb]at hg;exact hg
theorem ZC(h:Inv F S g a w){e:Ent}{cs:List AN}{vs:List Value}{nf:Nat->Blk}(hc:Cells F S g w cs vs nf)(hn:cs.length=e.cs.length)(hs:Ej e.sh e.cs.length=true)(ht:F6 cs=false) :
 (mkV e.sh vs).cells.toList=vs/\∀v∈vs,v.oneCell'=true:=by
 have hone:∀v∈vs,v.oneCell'=true:=by
  intro v hv;obtain⟨c,hcv⟩:=BE hv;have hlt:c<cs.length:=by
   have:=(AJ.1 hcv).1;rw[hc.1]at this;exact this
  obtain⟨v',hv',hok⟩:=hc.2.1 c cs[c] (by simp[hlt]);rw[hcv]at hv';cases hv';have hmem:∀(ls:List AN),F6 ls=false->∀l∈ls,l≠.t .top/\l≠.und:=by
   intro ls
   induction ls with
   |nil=>simp|cons x ls ih=>
    intro ht l hl;cases Af.1 hl with
    |inl e=>subst e;constructor<;>(rintro rfl;simp[F6]at ht)
    |inr e=>exact ih (by unfold F6 at ht;split at ht<;>simp_all) l e
  obtain⟨k1,k2⟩:=hmem cs ht _ (List.getElem_mem hlt);exact ny h hok k1 k2
 refine⟨?_,hone⟩;cases hsh:e.sh with
 |one=>
  rw[hsh]at hs;simp only[Ej,beq_iff_eq]at hs;have:vs.length=1:=by rw[hc.1,hn,hs]
  match vs,this,hone with
  | [v],_,hone=>
   have:=hone v (by simp);simp only[mkV,DL];cases v<;>first|rfl|(simp[Value.oneCell']at this)
 |agg=>simp[mkV,Value.cells]|tup ns=>rw[hsh]at hs;simp[Ej]at hs|ptr k=>rw[hsh]at hs;simp[Ej]at hs|vw k=>rw[hsh]at hs;simp[Ej]at hs
theorem vF(h:Inv F S g a w){d:Nat}{t:TypeId}{o:Operand}{x:Opd}(hd:d<F.N)(hev:ev (.box d x) S=some S')(ho:Bh o x=true)(hm:∀p∈Bk o x,Mt F.A F.P p.1 p.2) :
 ∃v w' g',(Instr.box t (a.eval o)).run F.P w=.ok v w'/\Inv F S' g' (a.put (some d) v) w'/\∀b,b<w.heap.size->w'.heap[b]?=w.heap[b]?:=by
 simp only[ev]at hev;split at hev
 .rename_i e he;split at hev
  .rename_i S1 cs ht;split at hev
   .cases hev
   .rename_i hcond;simp only[not_or,Df,Bool.not_eq_false]at hcond;obtain⟨hp,htop,hsh⟩:=hcond;cases hev;obtain⟨vs,nf,h1,hi,hc,hlen⟩:=AJ6 h (Kt h he ho hm) ht;obtain⟨g',hg⟩:=hi.AFM hd hp hc t;refine⟨_,_,g',vX,?_,fun b hb=>Dx hb⟩;have hcl:=(ZC hi hc hlen hsh htop).1;have:(a.eval o).cells=vs.toArray:=by rw[h1,<-Gb (xs:=(mkV e.sh vs).cells),hcl]
    rw[this];exact hg
  .cases hev
 .cases hev
def AAc(b c:Nat):AN->AN|.ow _=>.al (.cell b c) none|l=>l
theorem R6(b o:Nat)(l:AN)(ls:List AN):MI b o (l::ls)=AAc b o l::MI b (o+1) ls:=by cases l<;>rfl
theorem iu(b:Nat)(cs:List AN)(o c:Nat):(MI b o cs)[c]?=(cs[c]?).map (AAc b (o+c)):=by
 induction cs generalizing o c with
 |nil=>simp[MI]|cons l ls ih=>
  grind[R6,List.getElem?_cons_succ]
theorem AHq{b c:Nat}{l:AN}{x:T}:AAc b c l≠.ow x:=by cases l<;>simp[AAc]
theorem Po{n m m':Nat}(h:(List.range n)[m]?=some m'):m<n/\m=m':=by
 grind[List.getElem?_eq_some_iff]
theorem iv(b:Nat)(cs:List AN)(o:Nat):(MI b o cs).length=cs.length:=by
 induction cs generalizing o with
 |nil=>rfl|cons l ls ih=>rw[R6];simp[ih]
theorem YK(r:Bj)(i:Nat)(xs:List T)(j m:Nat):(HB r i j xs)[m]?=(xs[m]?).map (H2 (.own r (some (i,j+m)))):=by
 induction xs generalizing j m with
 |nil=>simp[HB]|cons x xs ih=>
  grind[HB,List.getElem?_cons_succ]
theorem YL(r:Bj)(i:Nat)(xs:List T)(j:Nat):(HB r i j xs).length=xs.length:=by
 induction xs generalizing j with
 |nil=>rfl|cons x xs ih=>simp[HB,ih]
theorem Mc(h:Inv F S g a w){p:AN}{v:Value}(hp:BR F S g w (fun _=>False) p v){n:Nat}{ls:List AN}(hl:S.load n p=some ls) :
 ∃b o vs,v=.pointer (some ⟨b,o,none⟩)/\vs.length=n/\ls.length=n/\(∀(j:Nat) u,vs[j]?=some u->w.cell? ⟨b,o+j,none⟩=some u)/\Cells F S g w ls vs fun _ _=>False:=by
 match p,hp with
 |.bp id off,hp=>
  have hp':v=.pointer (some ⟨g.β id,off,none⟩):=hp;subst hp';simp only[St.load]at hl;split at hl
  .rename_i ls0 hls0;split at hl
   .rename_i hle;cases hl;obtain⟨⟨E,hE⟩,hlen⟩:=h.bxs id ls0 hls0;have hgv:∀j u,(((g.bv id).drop off).take n)[j]?=some u->j<n/\(g.bv id)[off+j]?=some u:=by
     intro j u hu;rw[Bb]at hu;split at hu
     .rename_i hj;exact⟨hj,by rwa[BU]at hu⟩
     .cases hu
    refine⟨g.β id,off,((g.bv id).drop off).take n,rfl,by simp;omega,by simp[iv];omega,?_,Cells.free (by simp[iv];omega) ?_ ?_⟩
    .intro j u hu;obtain⟨_,hu⟩:=hgv j u hu;simp only[World.cell?,hE];simpa using hu
    .intro c l hlc;rw[iu,AG]at hlc;obtain⟨l0,hl0,rfl⟩:=hlc;rw[Bb]at hl0;split at hl0
     .rename_i hc;rw[BU]at hl0;have hat:S.at (.cell id (off+c))=some l0:=by simp[St.at,hls0,hl0]
      obtain⟨u,hu,hok⟩:=h.CL _ _ hat;refine⟨u,by rw[Bb,if_pos hc,BU];exact hu,?_⟩;by_cases how:∃x,l0=.ow x
      .obtain⟨x,rfl⟩:=how;exact⟨x,u,hat,hu,rfl⟩
      .have:AAc id (off+c) l0=l0:=by cases l0<;>first|rfl|exact(how ⟨_,rfl⟩).elim
       rw[this];exact BR.any (fun x hx=>how ⟨x,hx⟩) hok
     .cases hl0
    .intro x hx;obtain⟨c,hc⟩:=BE hx;rw[iu,AG]at hc;obtain⟨l0,_,hl0⟩:=hc;exact AHq hl0
   .cases hl
  .cases hl
 |.ep r i j,⟨e,xs,blk,off,len,cap,h1,h2,h3,h4⟩=>
  subst h4;simp only[St.load,h1]at hl;split at hl
  .rename_i row hrow;split at hl
   .rename_i hle;cases hl;obtain⟨u,hu,hown⟩:=h.CL r _ h1;rw[h2]at hu;cases hu;cases hown with
    |sc hh _ _=>exact hh.elim|sl c f k1 k2 k3 k4 k5 k6 k7 k8 k9 k10=>
     rename_i arr E;have hat:∀(m:Nat) x,((row.drop j).take n)[m]?=some x->m<n/\at2 xs i (j+m)=some x:=by
      intro m x hx;rw[Bb]at hx;split at hx
      .rename_i hm;rw[BU]at hx;exact⟨hm,by simp[at2,hrow,hx]⟩
      .cases hx
     refine⟨blk,off+i*e+j,(List.range n).map fun m=>c i (j+m),rfl,by simp,by simp[YL];omega,?_,Cells.free (by simp[YL];omega) ?_ ?_⟩
     .intro m u hm;rw[Ak,AG]at hm;obtain⟨m',hm',rfl⟩:=hm;obtain⟨hlt,rfl⟩:=Po hm';have hx:∃x,at2 xs i (j+m)=some x:=by
       have:j+m<row.length:=by omega
       exact⟨row[j+m],by simp[at2,hrow,this]⟩
      obtain⟨x,hx⟩:=hx;have:=k6 i (j+m) x hx;rw[k4.cell,<-this];congr 1;omega
     .intro m l hm;rw[YK,AG]at hm;obtain⟨x,hx,rfl⟩:=hm;obtain⟨hlt,hx⟩:=hat m x hx;refine⟨c i (j+m),by simp[hlt],?_⟩;have hO:=k7 i (j+m) x hx;cases x with
      |sl e' ys=>
       refine⟨⟨_,h1⟩,⟨f i (j+m),fun b hb=>(k10 b).2 (.inr ⟨i,j+m,_,hx,hb⟩),hO⟩,e,xs,blk,off,len,cap,h1,h2,hx,(k10 blk).2 (.inl rfl),?_⟩;rw[k4.cell];exact k6 i (j+m) _ hx
      |mp ks=>trivial|_=>cases hO with|sc hh _ _=>exact hh
     .intro x hx;obtain⟨m,hm⟩:=BE hx;rw[YK,AG]at hm;obtain⟨y,_,hy⟩:=hm;cases y<;>simp[H2]at hy
   .cases hl
  .cases hl
 |.vp s cs,hp=>
  simp only[St.load]at hl;split at hl
  .rename_i hle;cases hl;have hno:∀x,AN.ow x∉(cs.take n).map (H2 s.up):=by
    intro x hx;simp only[DC]at hx;obtain⟨y,_,hy⟩:=hx;cases y<;>simp[H2]at hy
   cases s with
   |own r=>
    obtain⟨hal,ad,c,f,q1,q2,q3⟩:=hp;subst q1;obtain⟨b,o,sp⟩:=ad;simp only at q2;subst q2;refine⟨b,o,(List.range n).map c,rfl,by simp,by simp;omega,?_,Cells.free (by simp;omega) ?_ hno⟩
    .intro m u hm;rw[Ak,AG]at hm;obtain⟨m',hm',rfl⟩:=hm;obtain⟨hlt,rfl⟩:=Po hm';exact(q3 m cs[m] (by simp[show m<cs.length from by omega])).2.1
    .intro m l hm;rw[Ak,AG]at hm;obtain⟨x,hx,rfl⟩:=hm;rw[Bb]at hx;split at hx
     .rename_i hlt;obtain⟨p1,p2,p3,p4⟩:=q3 m x hx;refine⟨c m,by simp[hlt],?_⟩;cases x with
      |sl e' ys=>exact⟨hal,⟨f m,p3,p4⟩,trivial⟩|mp ks=>trivial|_=>cases p4 with|sc hh _ _=>exact hh
     .cases hx
   |old k=>
    obtain⟨ad,c,q1,q2,q3⟩:=hp;subst q1;obtain⟨b,o,sp⟩:=ad;simp only at q2;subst q2;refine⟨b,o,(List.range n).map c,rfl,by simp,by simp;omega,?_,Cells.free (by simp;omega) ?_ hno⟩
    .intro m u hm;rw[Ak,AG]at hm;obtain⟨m',hm',rfl⟩:=hm;obtain⟨hlt,rfl⟩:=Po hm';exact(q3 m cs[m] (by simp[show m<cs.length from by omega])).2.1
    .intro m l hm;rw[Ak,AG]at hm;obtain⟨x,hx,rfl⟩:=hm;rw[Bb]at hx;split at hx
     .rename_i hlt;obtain⟨p1,p2,p3⟩:=q3 m x hx;refine⟨c m,by simp[hlt],?_⟩;cases x with
      |sl e' ys=>exact p3|mp ks=>trivial|_=>cases p3 with|sc hh=>exact hh
     .cases hx
  .cases hl
theorem AFc(h:Inv F S g a w){d:Nat}{t:TypeId}{n:Option Nat}{o:Operand}{x:Opd}(hd:d<F.N)(hev:ev (.ld d n x) S=some S')(hw:Iv F.P t n=true)(ho:Bh o x=true)(hm:∀p∈Bk o x,Mt F.A F.P p.1 p.2) :
 ∃v g',(∀w1,ADG (a.eval o) w w1->(Instr.loadAt t (a.eval o)).run F.P w1=.ok v w1)/\Inv F S' g' (a.put (some d) v) w:=by
 simp only[ev]at hev;split at hev
 .rename_i p hp;split at hev
  .rename_i ls hls;obtain⟨b,o',vs,hv,h1,h2,h3,hc⟩:=Mc h (Ft h hp ho hm).1 hls;rw[hv];have h3:∀w1,ADG (.pointer (some ⟨b,o',none⟩)) w w1->∀(j:Nat) u,vs[j]?=some u->w1.cell? ⟨b,o'+j,none⟩=some u:=fun w1 hw1 j u hu=>(IS (hw1 b rfl)).trans (h3 j u hu)
   unfold Iv at hw;split at hw
   .rename_i dsc i hu hi;cases n with
    |some k=>
     simp only[AD,beq_iff_eq]at hw;obtain⟨hst,hk⟩:=hw;obtain⟨fs,rfl⟩:∃fs,dsc=.struct fs:=by cases dsc<;>simp[RO]at hst;exact⟨_,rfl⟩
     obtain⟨g',hg⟩:=h.DJ (e:=⟨.agg,ls⟩) (by simpa[shN] using hev) hd hc;exact⟨_,g',fun w1 hw1=>gx hu hi (by simp[D6]at h1;omega) (h3 w1 hw1),by simpa[mkV] using hg⟩
    |none=>
     simp only[AD,beq_iff_eq,A8]at hw
     match vs,h1 with
     | [u],_=>
      obtain⟨g',hg⟩:=h.DJ (e:=⟨.one,ls⟩) (by simpa[shN] using hev) hd hc;refine⟨u,g',fun w1 hw1=>gy hu ?_ ?_ (by simpa using h3 w1 hw1 0 u rfl),by simpa[mkV] using hg⟩
      .rintro fs rfl;simp[Nx]at hw
      .rintro n e rfl;simp[Nx]at hw
   .cases hw
  .cases hev
 .cases hev
end
section
variable{F:Fix}{S S':St}{g g':Gh}{a a':Act}{w w':World}
theorem UL{xs:List (List T)}{i:Nat}{row':List T}(hi:i<xs.length)(i' j':Nat):at2 (xs.set i row') i' j'=if i'=i then row'[j']? else at2 xs i' j':=by
 grind[at2]
theorem iS{e i j:Nat}{xs:List (List T)}{row:List T}{ts:List T}{vs:List Value}{nf:Nat->Blk}{blk off len cap:Nat}{arr:Array Value}{E:TypeId}{fp:Blk}
 {c:Nat->Nat->Value} {f:Nat->Nat->Blk} (k1:len=xs.length) (k2:len<=cap) (k3:∀row∈xs,row.length=e) (k4:D7 w blk arr E e) (k5:off+cap*e<=arr.size)
 (k6:∀i j x,at2 xs i j=some x->arr[off+i*e+j]?=some (c i j)) (k7:∀i j x,at2 xs i j=some x->Own w x (c i j) (f i j)) (k8:∀i j x,at2 xs i j=some x->¬f i j blk)
 (k9:∀i j x i' j' x',at2 xs i j=some x->at2 xs i' j'=some x'->(i=i'->j≠j')->∀b,f i j b->¬f i' j' b) (k10:∀b,fp b↔b=blk\/∃i j x,at2 xs i j=some x/\f i j b)
 (hrow:xs[i]?=some row) (hle:j+ts.length<=row.length) (hlen:vs.length=ts.length) (hown:∀(m:Nat) x,ts[m]?=some x->∃v,vs[m]?=some v/\Own w x v (nf m))
 (hfp:∀m b,m<ts.length->nf m b->¬fp b) (hnn:∀m m' b,m<ts.length->m'<ts.length->m≠m'->nf m b->¬nf m' b) :
 ∃fp':Blk,Own (w.setRow blk (arr.toList.take (off+i*e+j)++vs++arr.toList.drop (off+i*e+j+vs.length)).toArray) (.sl e (xs.set i (C2 row j ts))) (.slice (some ⟨blk,off,none⟩) len cap) fp' /\
  (∀b,fp' b->fp b\/∃m,m<ts.length/\nf m b):=by
 have hi:i<xs.length:=(AJ.1 hrow).1;have hrl:row.length=e:=k3 row (AX hrow);have hmul:(i+1)*e<=cap*e:=AV _ (by omega);rw[A3,Cl]at hmul;have hfit:off+i*e+j+vs.length<=arr.size:=by omega
 have hblk:fp blk:=(k10 blk).2 (.inl rfl);have hset:∀m,(C2 row j ts)[m]?=if j<=m/\m<j+ts.length then ts[m-j]? else row[m]?:=fun m=>Ez row j ts hle m
 have hat:∀i' j' x,at2 (xs.set i (C2 row j ts)) i' j'=some x->(i'=i/\j<=j'/\j'<j+ts.length/\ts[j'-j]?=some x)\/(¬(i'=i/\j<=j'/\j'<j+ts.length)/\at2 xs i' j'=some x):=by
  intro i' j' x hx;rw[UL hi]at hx;by_cases h1:i'=i
  .subst h1;rw[if_pos rfl,hset]at hx;split at hx
   .rename_i h2;exact .inl ⟨rfl,h2.1,h2.2,hx⟩
   .rename_i h2;exact .inr ⟨fun h=>h2 h.2,by simp[at2,hrow,hx]⟩
  .rw[if_neg h1]at hx;exact .inr ⟨fun h=>h1 h.1,hx⟩
 have harr:∀k,(arr.toList.take (off+i*e+j)++vs++arr.toList.drop (off+i*e+j+vs.length)).toArray[k]?=if off+i*e+j<=k/\k<off+i*e+j+vs.length then vs[k-(off+i*e+j)]? else arr[k]?:=by
  intro k;have:=Ez arr.toList (off+i*e+j) vs (by simpa using hfit) k;rw[Jw _ _ _ (by simpa using hfit)]at this;simpa using this
 let vv:Nat->Value:=fun m=>vs.getD m undef
 have hvv:∀(m:Nat) x,ts[m]?=some x->vs[m]?=some (vv m)/\Own w x (vv m) (nf m):=by
  intro m x hx;obtain⟨v,hv,ho⟩:=hown m x hx;have:vv m=v:=by simp[vv,List.getD,hv]
  rw[this];exact⟨hv,ho⟩
 let cc:Nat->Nat->Value:=fun i' j'=>if i'=i/\j<=j'/\j'<j+ts.length then vv (j'-j) else c i' j'
 let ff:Nat->Nat->Blk:=fun i' j'=>if i'=i/\j<=j'/\j'<j+ts.length then nf (j'-j) else f i' j'
 have cin:∀{i' j'},(i'=i/\j<=j'/\j'<j+ts.length)->cc i' j'=vv (j'-j)/\ff i' j'=nf (j'-j):=by
  intro i' j' hh;exact⟨by simp only[cc,if_pos hh],by simp only[ff,if_pos hh]⟩
 have cout:∀{i' j'},¬(i'=i/\j<=j'/\j'<j+ts.length)->cc i' j'=c i' j'/\ff i' j'=f i' j':=by
  intro i' j' hh;exact⟨by simp only[cc,if_neg hh],by simp only[ff,if_neg hh]⟩
 have hframe:∀{x:T} {v:Value} {S0:Blk},Own w x v S0->(¬S0 blk)->Own (w.setRow blk (arr.toList.take (off+i*e+j)++vs++arr.toList.drop (off+i*e+j+vs.length)).toArray) x v S0:=by
  intro x v S0 ho hnb;exact ho.frame fun b hb=>setRow_other (by rintro rfl;exact hnb hb)
 refine⟨fun b=>b=blk\/∃i' j' x,at2 (xs.set i (C2 row j ts)) i' j'=some x/\ff i' j' b,.sl cc ff (by simpa using k1) k2 ?_ (k4.set (by simp;omega)) ?_ ?_ ?_ ?_ ?_ (fun b=>Iff.rfl),?_⟩
 .intro row' hr';rcases List.mem_or_eq_of_mem_set hr' with hr'|rfl
  .exact k3 row' hr'
  .rw[KQ];exact hrl
 .simp;omega
 .intro i' j' x hx;rw[harr];rcases hat i' j' x hx with ⟨h1,h2,h3,h4⟩|⟨h1,h2⟩
  .rw[(cin ⟨h1,h2,h3⟩).1];subst h1;rw[if_pos (by omega),show off+i'*e+j'-(off+i'*e+j)=j'-j from by omega];exact(hvv _ _ h4).1
  .rw[(cout h1).1];have hj':j'<e:=Ka h2 k3;rw[if_neg]
   .exact k6 i' j' x h2
   .intro hh;apply h1;have:i'=i:=by
     rcases Nat.lt_trichotomy i' i with hlt|heq|hgt
     .have:(i'+1)*e<=i*e:=AV _ hlt;rw[A3,Cl]at this;omega
     .exact heq
     .have:(i+1)*e<=i'*e:=AV _ hgt;rw[A3,Cl]at this;omega
    subst this;exact⟨rfl,by omega,by omega⟩
 .intro i' j' x hx;rcases hat i' j' x hx with ⟨h1,h2,h3,h4⟩|⟨h1,h2⟩
  .rw[(cin ⟨h1,h2,h3⟩).1,(cin ⟨h1,h2,h3⟩).2];exact hframe (hvv _ _ h4).2 fun hb=>hfp _ _ (by omega) hb hblk
  .rw[(cout h1).1,(cout h1).2];exact hframe (k7 i' j' x h2) (k8 i' j' x h2)
 .intro i' j' x hx;rcases hat i' j' x hx with ⟨h1,h2,h3,h4⟩|⟨h1,h2⟩
  .rw[(cin ⟨h1,h2,h3⟩).2];exact fun hb=>hfp _ _ (by omega) hb hblk
  .rw[(cout h1).2];exact k8 i' j' x h2
 .intro i1 j1 x1 i2 j2 x2 hx1 hx2 hne b;rcases hat i1 j1 x1 hx1 with ⟨h1,h2,h3,h4⟩|⟨h1,h2⟩
  .rw[(cin ⟨h1,h2,h3⟩).2];rcases hat i2 j2 x2 hx2 with ⟨p1,p2,p3,p4⟩|⟨p1,p2⟩
   .rw[(cin ⟨p1,p2,p3⟩).2];have:=hne (h1.trans p1.symm);exact hnn _ _ b (by omega) (by omega) (by omega)
   .rw[(cout p1).2];exact fun hb hb'=>hfp _ b (by omega) hb ((k10 b).2 (.inr ⟨i2,j2,x2,p2,hb'⟩))
  .rw[(cout h1).2];rcases hat i2 j2 x2 hx2 with ⟨p1,p2,p3,p4⟩|⟨p1,p2⟩
   .rw[(cin ⟨p1,p2,p3⟩).2];exact fun hb hb'=>hfp _ b (by omega) hb' ((k10 b).2 (.inr ⟨i1,j1,x1,h2,hb⟩))
   .rw[(cout p1).2];exact k9 i1 j1 x1 i2 j2 x2 h2 p2 hne b
 grind
theorem S6{sh:Sh}{vs:List Value}{n:Nat}(hs:Ej sh n=true)(hl:vs.length=n)(h1:∀v∈vs,v.oneCell'=true):(mkV sh vs).cells.toList=vs:=by
 cases sh with
 |one=>
  simp only[Ej,beq_iff_eq]at hs
  match vs,hl.trans hs,h1 with
  | [v],_,h1=>
   have:=h1 v (by simp);simp only[mkV,DL];cases v<;>first|rfl|(simp[Value.oneCell']at this)
 |agg=>simp[mkV,Value.cells]|tup ns=>simp[Ej]at hs|ptr k=>simp[Ej]at hs|vw k=>simp[Ej]at hs
def ALW(S:St)(g:Gh)(x:Opd)(b:Nat):Prop:=∃l,S.one x=some l/\((∃id off,l=.bp id off/\(get S.bx id).isSome/\b=g.β id)\/∃r,l.BX=some r/\Bl S r/\g.fp r b)
theorem AHQ{S:St}:∀{ls:List AN} {S:St} {S':St} {cs:List AN} (id:Nat),HN S ls=some (S',cs)->(get S'.bx id).isSome->(get S.bx id).isSome:=by
 intro ls
 induction ls with
 |nil=>intro S S' cs id h hs;simp only[HN,AB,Prod.mk.injEq]at h;rw[h.1];exact hs
 |cons l ls ih=>
  intro S S' cs id h hs;unfold HN at h
  grind[St.out,St.kill,CZ,Option.isSome_map,C6]
theorem AFe(h:Inv F S g a w){t:TypeId}{n:Nat}{ox ov:Operand}{x v:Opd}{i:TypeInfo}(hev:ev (.st n x v) S=some S')(hi:F.P.info? t=some i)(hn:i.size=n % 1048576)(hox:Bh ox x=true)(hov:Bh ov v=true)
 (hmx:∀p∈Bk ox x,Mt F.A F.P p.1 p.2) (hmv:∀p∈Bk ov v,Mt F.A F.P p.1 p.2) :
 ∃w' g',(Instr.storeAt t (a.eval ox) (a.eval ov)).run F.P w=.ok () w'/\Inv F S' g' a w'/\∀b,¬ALW S g x b->w'.heap[b]?=w.heap[b]?:=by
 simp only[ev]at hev;split at hev
 .rename_i p e hp he;split at hev
  .rename_i hcond;obtain⟨hlen,hsh⟩:=hcond;have hrd:=Kt h he hov hmv;obtain⟨hpo,hpn⟩:=Ft h hp hox hmx;unfold St.Ms at hev;split at hev
   .rename_i id o;split at hev
    .rename_i S1 cs' htk;split at hev
     .cases hev
     .rename_i htop;simp only[Df]at htop;have hcs:∃vs nf,a.eval ov=mkV e.sh vs/\Inv F S1 g a w/\Cells F S1 g w cs' vs nf/\cs'.length=e.cs.length:=by
       unfold Rv at htk;split at htk
       .exact Rx h hrd htk
       .cases htk;obtain⟨vs,h1,hc⟩:=hrd.cells;exact⟨vs,_,h1,h,hc,rfl⟩
      obtain⟨vs,nf,h1,hinv,hc,hl⟩:=hcs;have hpo':a.eval ox=.pointer (some ⟨g.β id,o,none⟩):=hpo;dsimp only at hev;split at hev
      .rename_i ls hls;split at hev
       .rename_i hle;cases hev;obtain⟨g',hg⟩:=hinv.AHK hc hls hle;obtain⟨hcl,hone⟩:=ZC hinv hc hl (by rw[hlen];exact hsh) htop;have hls0:∃ls0,get S1.bx id=some ls0/\ls.length=ls0.length:=by
         simp only[St.kill,CZ,AG]at hls;obtain⟨ls0,h0,rfl⟩:=hls;exact⟨ls0,h0,D1 _ _⟩
        obtain⟨ls0,h0,hl0⟩:=hls0;obtain⟨⟨E,hE⟩,hbl⟩:=hinv.bxs id ls0 h0;have hsz:(a.eval ov).cells.size=n % 1048576:=by rw[h1,<-BC,hcl,hc.1,hl,hlen]
        have hrun:=Rl (e:=0) (P:=F.P) (t:=t) (b:=g.β id) (o:=o) (v:=a.eval ov) hi (by rw[hsz,hn]) (.of hE) (by
         rw[hsz];simp only[Am,hbl];omega) (by rw[h1,hcl];exact hone)
        have hsome:(get S.bx id).isSome:=by
         unfold Rv at htk;split at htk
         .unfold IP at htk;split at htk
          .exact AHQ (S:=S) id htk (by rw[h0];rfl)
          .cases htk
         .cases htk;rw[h0];rfl
        refine⟨_,g',by rw[hpo'];exact hrun,?_,fun b hb=>setRow_other (by rintro rfl;exact hb ⟨_,hp,.inl ⟨id,o,rfl,hsome,rfl⟩⟩)⟩;have:(mkV e.sh vs).cells.size=vs.length:=by rw[<-BC,hcl]
        simp only[h1,hcl,this];exact hg
       .cases hev
      .cases hev
    .cases hev
   .rename_i r i' j;split at hev
    .rename_i S1 ts htk;split at hev
     .rename_i e1 xs hx;split at hev
      .rename_i row hrow;split at hev
       .rename_i hle;cases hev;obtain⟨vs,h1,h2,h3,h4⟩:=hrd;obtain⟨g1,htaken,nf,hT,hnf⟩:=RZ h h3 h2 (by
         intro c l hl;obtain⟨u,hu,hok⟩:=h4 c l hl;exact⟨u,hu,fun _ _ _=>hok,fun _=>hok⟩) htk
        obtain⟨t1,t2,t3,t4,t5,t6⟩:=hT;have hinv:=htaken.inv;obtain⟨e0,xs0,blk,off,len,cap,q1,q2,q3,q4⟩:=hpo;have hfpb:g.fp r blk:=by
         obtain⟨u,hu,hown⟩:=h.CL r _ q1;rw[q2]at hu;cases hu;cases hown with
         |sc hh _ _=>exact hh.elim|sl c f k1 k2 k3 k4 k5 k6 k7 k8 k9 k10=>exact(k10 blk).2 (.inl rfl)
        have halS:Bl S r:=⟨_,q1⟩;obtain⟨x0,hx0,hlike⟩:=htaken.nz r _ hx;rw[q1]at hx0;cases hx0;obtain rfl:e0=e1:=by
         rcases hlike with hh|⟨e2,l1,l2,hh1,hh2,_⟩
         .cases hh;rfl
         .cases hh1;cases hh2;rfl
        obtain⟨u,hu,hown⟩:=hinv.CL r _ hx;have q2':g1.rv r=some (.slice (some ⟨blk,off,none⟩) len cap):=(htaken.rv r).trans q2;rw[q2']at hu;cases hu;have hone:∀v∈vs,v.oneCell'=true:=by
         intro v hv;obtain⟨c,hc⟩:=BE hv;have hlt:c<ts.length:=by rw[<-t1];exact(AJ.1 hc).1
         obtain⟨v',hv',ho⟩:=t2 c ts[c] (by simp[hlt]);rw[hc]at hv';cases hv';exact ho.one
        have hcl:=S6 hsh (h2.trans hlen) hone;have hsz:(mkV e.sh vs).cells.size=vs.length:=by rw[<-BC,hcl]
        cases hown with
        |sc hh _ _=>exact hh.elim|sl c f k1 k2 k3 k4 k5 k6 k7 k8 k9 k10=>
         rename_i arr E;have hal:Bl S1 r:=⟨_,hx⟩;obtain⟨fp',hO,hsub⟩:=iS (w:=w) (fp:=g1.fp r) k1 k2 k3 k4 k5 k6 k7 k8 k9 k10 hrow hle t1 t2 (fun m b hm hb=>t4 m r b hm hal hb) t6;have hrl:row.length=e0:=k3 row (AX hrow);have hi':i'<xs.length:=(AJ.1 hrow).1;have hmul:(i'+1)*e0<=cap*e0:=AV _ (by omega);rw[A3,Cl]at hmul;have hrun:=Rl (P:=F.P) (t:=t) (b:=blk) (o:=off+i'*e0+j) (v:=a.eval ov) hi (by rw[h1,hsz,h2,hlen,hn]) k4 (by rw[h1,hsz];omega) (by rw[h1,hcl];exact hone);have hblk:g1.fp r blk:=(k10 blk).2 (.inl rfl);obtain⟨g',hg⟩:=hinv.AG5 (ys:=xs.set i' (C2 row j ts)) (fp':=fp') hx q2' (by simp) (w':=w.setRow blk (arr.toList.take (off+i'*e0+j)++vs++arr.toList.drop (off+i'*e0+j+vs.length)).toArray)
          Still.setRow (fun b _ hb=>setRow_other (by rintro rfl;exact hb hblk)) hO
          (fun b hb=>by
           rcases hsub b hb with hb|⟨m,hm,hb⟩
           .exact hinv.Fa r hal b hb
           .exact t3 m b hm hb)
          (fun r' hr' hne b hb=>by
           rcases hsub b hb with hb|⟨m,hm,hb⟩
           .exact hinv.dis r r' hal hr' (Ne.symm hne) b hb
           .exact t4 m r' b hm hr' hb)
          (fun id hid hb=>by
           rcases hsub _ hb with hb|⟨m,hm,hb⟩
           .exact hinv.EO r id hal hid hb
           .exact t5 m id hm hid hb)
         refine⟨_,g',by rw[q4];exact hrun,?_,fun b hb=>setRow_other (by rintro rfl;exact hb ⟨_,hp,.inr ⟨r,rfl,halS,hfpb⟩⟩)⟩;simp only[h1,hcl,hsz];exact hg
       .cases hev
      .cases hev
     .cases hev
    .cases hev
   .cases hev
  .cases hev
 .cases hev
end
section
variable{F:Fix}{S S':St}{g g':Gh}{a a':Act}{w w':World}
theorem ABS{p q:AN}{v:Value}{off:Nat}(hp:BR F S g w (fun _=>False) p v)(hq:JN off p=some q) :
 ∃b o,v=.pointer (some ⟨b,o,none⟩)/\BR F S g w (fun _=>False) q (.pointer (some ⟨b,o+off,none⟩))/\∀x,q≠.ow x:=by
 match p,hp with
 |.bp id o,hp=>
  have hp':v=_:=hp;subst hp';simp only[JN,AB]at hq;subst hq;exact⟨_,_,rfl,rfl,by simp⟩
 |.ep r i j,⟨e,xs,blk,o,len,cap,h1,h2,h3,h4⟩=>
  subst h4;simp only[JN,AB]at hq;subst hq;exact⟨_,_,rfl,⟨e,xs,blk,o,len,cap,h1,h2,h3,by rw[CB]⟩,by simp⟩
 |.vp (.own r _) cs,⟨hal,⟨b,o,sp⟩,c,f,h1,h2,h3⟩=>
  subst h1;simp only at h2;subst h2;simp only[JN,AB]at hq;subst hq;refine⟨_,_,rfl,⟨hal,⟨b,o+off,none⟩,fun j=>c (off+j),fun j=>f (off+j),rfl,rfl,fun j x hx=>?_⟩,by simp⟩;rw[BU]at hx;have:=h3 (off+j) x hx;simp only at this ⊢;rw[CB];exact this
 |.vp (.old k) cs,⟨⟨b,o,sp⟩,c,h1,h2,h3⟩=>
  subst h1;simp only at h2;subst h2;simp only[JN,AB]at hq;subst hq;refine⟨_,_,rfl,⟨⟨b,o+off,none⟩,fun j=>c (off+j),rfl,rfl,fun j x hx=>?_⟩,by simp⟩;rw[BU]at hx;have:=h3 (off+j) x hx;simp only at this ⊢;rw[CB];exact this
theorem AFZ(h:Inv F S g a w){d off f:Nat}{t:TypeId}{o:Operand}{x:Opd}(hd:d<F.N)(hev:ev (.fa d off x) S=some S')(hf:dT F.P t f off=true)(ho:Bh o x=true)(hm:∀p∈Bk o x,Mt F.A F.P p.1 p.2) :
 ∃v g',(∀w1:World,(Instr.fieldAt t (a.eval o) f).run F.P w1=.ok v w1)/\Inv F S' g' (a.put (some d) v) w:=by
 simp only[ev]at hev;split at hev
 .rename_i p hp;split at hev
  .rename_i q hq;obtain⟨b,o',hv,hl,hn⟩:=ABS (Ft h hp ho hm).1 hq;unfold dT at hf;split at hf
   .rename_i fs hu;split at hf
    .rename_i fl hfl;simp only[AD,beq_iff_eq]at hf;obtain⟨hoff,hsz⟩:=hf;split at hsz
     .rename_i i hi;simp only[decide_eq_true_eq]at hsz;obtain⟨g',hg⟩:=Ly h hd hev hn hl;refine⟨_,g',?_,hg⟩;rw[hv,<-hoff];exact fun _=>Y7 hu hfl hi hsz
     .cases hsz
    .cases hf
   .cases hf
  .cases hev
 .cases hev
theorem vG(h:Inv F S g a w){d:Nat}{o:Operand}{x:Opd}(hd:d<F.N)(hev:ev (.chk d x) S=some S')(ho:Bh o x=true)(hm:∀p∈Bk o x,Mt F.A F.P p.1 p.2) :
 ∃ad g',a.eval o=.pointer (some ad)/\Inv F S' g' (a.put (some d) (a.eval o)) w:=by
 simp only[ev]at hev;split at hev
 .rename_i p hp;split at hev
  .rename_i hptr;obtain⟨hl,hn⟩:=Ft h hp ho hm;obtain⟨g',hg⟩:=Ly h hd hev hn hl;have:∃ad,a.eval o=.pointer (some ad):=by
    match p,hl with
    |.bp id off,hl=>exact⟨_,hl⟩|.ep r i j,⟨e,xs,blk,off,len,cap,_,_,_,h4⟩=>exact⟨_,h4⟩|.vp (.own r _) cs,⟨_,ad,_,_,h1,_⟩=>exact⟨_,h1⟩|.vp (.old k) cs,⟨ad,_,h1,_⟩=>exact⟨_,h1⟩|.t _,_=>simp[St.M1]at hptr|.und,_=>simp[St.M1]at hptr|.ow _,_=>simp[St.M1]at hptr|.al _ _,_=>simp[St.M1]at hptr|.vw (.own _ _) _ _,_=>simp[St.M1]at hptr|.vw (.old _) _ _,_=>simp[St.M1]at hptr|.fn _ _,_=>simp[St.M1]at hptr
   grind
  .cases hev
 .cases hev
theorem PJ(h:Inv F S g a w){l:AN}{v:Value}(hl:BR F S g w (fun _=>False) l v){xs:List (List T)}(he:S.elems l=some xs) :
 (xs=[]/\v=.slice none 0 0)\/∃e,View w (fun _=>True) (.sl e xs) v/\∀e',S.wide e' l=true->e'=e:=by
 have up:∀{B:Blk} {x:T} {v:Value},View w B x v->View w (fun _=>True) x v:=fun hv=>hv.mono (fun _ _=>trivial) fun _ _=>rfl
 match l,hl with
 |.al r sub,⟨x,u,h1,h2,h3⟩=>
  simp only[St.elems,h1,AG]at he;obtain⟨ys,hy,rfl⟩:=he;obtain⟨u',hu',hown⟩:=h.CL r _ h1;rw[h2]at hu';cases hu';obtain⟨S0,_,hO⟩:=Mk hown h3;cases x with
  |sl e zs=>
   simp only[content,AB]at hy;subst hy;exact .inr ⟨e,up hO.view,fun e' hw=>by simp[St.wide,h1,eOf]at hw;exact hw.symm⟩
  |nil=>
   simp only[content,AB]at hy;subst hy;cases hO with
   |sc hs _ _=>exact .inl ⟨by cases sub with|none=>rfl|some p=>simp[HD],hs⟩
  |_=>simp[content]at hy
 |.vw (.own r _) e ys,⟨_,⟨S0,_,hO⟩,_⟩=>
  simp only[St.elems,AB]at he;subst he;exact .inr ⟨e,up hO.view,fun e' hw=>by simp[St.wide]at hw;exact hw.symm⟩
 |.vw (.old k) e ys,hl=>
  simp only[St.elems,AB]at he;subst he;exact .inr ⟨e,up hl,fun e' hw=>by simp[St.wide]at hw;exact hw.symm⟩
 |.t x,hl=>
  cases x with
  |nil=>simp only[St.elems,AB]at he;subst he;exact .inl ⟨rfl,hl⟩|_=>simp[St.elems]at he
 |.und,_=>simp[St.elems]at he|.ow _,_=>simp[St.elems]at he|.ep _ _ _,_=>simp[St.elems]at he|.vp (.own _ _) _,_=>simp[St.elems]at he|.vp (.old _) _,_=>simp[St.elems]at he|.bp _ _,_=>simp[St.elems]at he|.fn _ _,_=>simp[St.elems]at he
theorem Et{P:Program}{t:TypeId}{e:Nat}(h:EL P t e=true):∃el i,P.underlying t=some (.slice el)/\P.info? el=some i/\i.size=e/\i.bytes<=65536/\0<e:=by
 grind[EL]
theorem gM(h:Inv F S g a w){d:Nat}{t ty:TypeId}{o:Operand}{x:Opd}(hd:d<F.N)(hev:ev (.lens d x) S=some S')(ht:isStr F.P t=true)(ho:Bh o x=true)(hm:∀p∈Bk o x,Mt F.A F.P p.1 p.2) :
 (∃v g',(∀w1:World,(Builtin.len_ #[t] ty #[a.eval o]).run F.P w1=.ok v w1)/\Inv F S' g' (a.put (some d) v) w):=by
 simp only[ev]at hev;split at hev
 .rename_i s hs;have hv:a.eval o=.string ⟨s.toArray⟩:=L7 h hs ho hm;obtain⟨g',hg⟩:=Ie (v:=.int .i64 s.length) h hd hev rfl
  grind[isStr,run_len_string,goInt,ByteArray.size]
 .cases hev
theorem vK(h:Inv F S g a w){d:Nat}{t ty:TypeId}{o:Operand}{x:Opd}(hd:d<F.N)(hev:ev (.len d x) S=some S')
 (ht:(match F.P.underlying t with|some (.slice _)=>true|_=>false)=true) (ho:Bh o x=true) (hm:∀p∈Bk o x,Mt F.A F.P p.1 p.2) :
 (∃v g',(∀w1:World,(Builtin.len_ #[t] ty #[a.eval o]).run F.P w1=.ok v w1)/\Inv F S' g' (a.put (some d) v) w):=by
 simp only[ev]at hev;split at hev
 .rename_i l hl;obtain⟨hok,hn⟩:=Ft h hl ho hm;split at hev
  .rename_i xs hxs;obtain⟨g',hg⟩:=Ie (v:=.int .i64 xs.length) h hd hev rfl;have hv:∃ad cap,a.eval o=.slice ad xs.length cap:=by
    rcases PJ h hok hxs with ⟨rfl,hv⟩|⟨e,hv,_⟩
    .exact⟨none,0,hv⟩
    .generalize a.eval o=u at hv;cases hv with|nl=>exact⟨_,_,rfl⟩|sc hs=>exact hs.elim|sl c h1=>exact⟨_,_,by rw[h1]⟩
   obtain⟨ad,cap,hv⟩:=hv;split at ht
   .rename_i el hu;refine⟨_,g',?_,hg⟩;rw[hv];simp[Builtin.len_,run_underlying hu,goInt]
   .cases ht
  .cases hev
 .cases hev
end
section
variable{F:Fix}{S S':St}{g g':Gh}{a a':Act}{w w':World}
theorem jC{xs:List (List T)}{n j:Nat}{x:T}(h:(xs.getD n [])[j]?=some x):at2 xs n j=some x:=by
 grind[at2]
theorem AFa(h:Inv F S g a w){d e:Nat}{t:TypeId}{o oi:Operand}{x i:Opd}(hd:d<F.N)(hev:ev (.ia d e x i) S=some S')(he:EL F.P t e=true)(ho:Bh o x=true)(hoi:Bh oi i=true)
 (hm:∀p∈Bk o x,Mt F.A F.P p.1 p.2) (hmi:∀p∈Bk oi i,Mt F.A F.P p.1 p.2) :
 ∃v g',(∀w1:World,(Instr.indexAt t (a.eval o) (a.eval oi)).run F.P w1=.ok v w1)/\Inv F S' g' (a.put (some d) v) w:=by
 obtain⟨el,ti,hu,hti,hsz,_,_⟩:=Et he;simp only[ev]at hev;split at hev
 .rename_i l n hl hn;obtain⟨k,hk⟩:=N5 h hn hoi hmi;obtain⟨hok,hnow⟩:=Ft h hl ho hm;split at hev
  .rename_i xs hxs;split at hev
   .rename_i hcond;obtain⟨hwide,h0,h1⟩:=hcond;rw[hk];have hnt:n.toNat<xs.length:=by omega
    have fin:∀(blk off len cap:Nat) (q:AN),a.eval o=.slice (some ⟨blk,off,none⟩) len cap->len=xs.length->S.DJ d ⟨.one,[q]⟩=some S'->(∀x,q≠.ow x) ->
     BR F S g w (fun _=>False) q (.pointer (some ⟨blk,off+n.toNat*e,none⟩)) ->
     ∃v g',(∀w1:World,(Instr.indexAt t (a.eval o) (.int k n)).run F.P w1=.ok v w1)/\Inv F S' g' (a.put (some d) v) w:=by
     intro blk off len cap q hv hlen hp hq hok';obtain⟨g',hg⟩:=Ly h hd hp hq hok';refine⟨_,g',?_,hg⟩;rw[hv,<-hsz];exact fun _=>Y8 hu hti h0 (by omega)
    match l,hok with
    |.al r sub,⟨x,u,q1,q2,q3⟩=>
     have hwide':=hwide;simp only[St.wide,q1]at hwide';simp only[St.elems,q1,AG]at hxs;obtain⟨ys,hy,rfl⟩:=hxs;obtain⟨u',hu',hown⟩:=h.CL r _ q1;rw[q2]at hu';cases hu';cases x with
     |sl e' zs=>
      simp only[eOf,beq_iff_eq]at hwide';subst hwide';simp only[content,AB]at hy;subst hy;cases hown with
      |sc hh _ _=>exact hh.elim|nl=>cases sub<;>simp[HD]at hnt
      |sl c f k1 k2 k3 k4 k5 k6 k7 k8 k9 k10=>
       rename_i blk off len cap arr E;cases sub with
       |none=>
        have hv:a.eval o=.slice (some ⟨blk,off,none⟩) len cap:=q3;exact fin blk off len cap _ hv (by simpa[HD] using k1) hev (by simp) ⟨e',zs,blk,off,len,cap,q1,q2,by simpa[HD] using hnt,by simp⟩
       |some p=>
        obtain⟨lo,m⟩:=p;obtain⟨blk',off',len',cap',off'',cap'',p1,p2,p3,p4,p5,p6⟩|⟨p1,_⟩:=q3
        case inr=>cases p1
        cases p1;simp only[HD,List.length_take,List.length_drop]at hnt;have hc:cap''≠0:=by omega
        refine fin blk off'' m cap'' _ p2 (by simp[HD];omega) hev (by simp) ⟨e',zs,blk,off,len,cap,q1,q2,by omega,?_⟩;rw[p5 hc,A3];congr 3;omega
     |nil=>simp only[content,AB]at hy;subst hy;cases sub<;>simp[HD]at hnt
     |_=>simp[content]at hy
    |.vw (.own r _) e' ys,⟨hal,⟨S0,hS0,hO⟩,_⟩=>
     simp only[St.elems,AB]at hxs;subst hxs;simp only[St.wide,beq_iff_eq]at hwide;subst hwide;obtain⟨vo,hvo⟩:∃vo,a.eval o=vo:=⟨_,rfl⟩;rw[hvo]at hO;cases hO with
     |sc hh _ _=>exact hh.elim|nl=>simp at hnt|sl c f k1 k2 k3 k4 k5 k6 k7 k8 k9 k10=>
      rename_i blk off len cap arr E;refine fin blk off len cap _ hvo k1 hev (by simp) ⟨hal,⟨blk,off+n.toNat*e',none⟩,fun j=>c n.toNat j,fun j=>f n.toNat j,rfl,rfl,fun j x hx=>?_⟩;have hx2:=jC hx;refine⟨hS0 _ ((k10 _).2 (.inl rfl)),?_,fun b hb=>hS0 b ((k10 b).2 (.inr ⟨_,_,_,hx2,hb⟩)),k7 _ _ _ hx2⟩;rw[k4.cell];exact k6 _ _ _ hx2
    |.vw (.old kk) e' ys,hV=>
     simp only[St.elems,AB]at hxs;subst hxs;simp only[St.wide,beq_iff_eq]at hwide;subst hwide;obtain⟨vo,hvo⟩:∃vo,a.eval o=vo:=⟨_,rfl⟩;rw[hvo]at hV;have hV':View w (F.R kk) (.sl e' ys) vo:=hV;cases hV' with
     |nl=>simp at hnt|sc hh=>exact hh.elim|sl c k1 k2 k3 k4 k5 k6=>
      rename_i ad len cap;have hne:ys≠[]:=by rintro rfl;simp at hnt
      obtain⟨hsp,hR⟩:=k4 hne;obtain⟨blk,off,sp⟩:=ad;simp only at hsp hR k5;subst hsp;refine fin blk off len cap _ hvo k1 hev (by simp) ⟨⟨blk,off+n.toNat*e',none⟩,fun j=>c n.toNat j,rfl,rfl,fun j x hx=>?_⟩;have hx2:=jC hx;exact⟨hR,k5 _ _ _ hx2,k6 _ _ _ hx2⟩
    |.t x,_=>cases x<;>first|(simp only[St.elems,AB]at hxs;subst hxs;simp at hnt)|simp[St.elems]at hxs
    |.und,_=>simp[St.elems]at hxs|.ow _,_=>simp[St.elems]at hxs|.ep _ _ _,_=>simp[St.elems]at hxs|.vp (.own _ _) _,_=>simp[St.elems]at hxs|.vp (.old _) _,_=>simp[St.elems]at hxs|.bp _ _,_=>simp[St.elems]at hxs|.fn _ _,_=>simp[St.elems]at hxs
   .cases hev
  .cases hev
 .cases hev
theorem AFb(h:Inv F S g a w){d:Nat}{t:TypeId}{o oi:Operand}{x i:Opd}(hd:d<F.N)(hev:ev (.ix d x i) S=some S')(ht:isStr F.P t=true)(ho:Bh o x=true)(hoi:Bh oi i=true)
 (hm:∀p∈Bk o x,Mt F.A F.P p.1 p.2) (hmi:∀p∈Bk oi i,Mt F.A F.P p.1 p.2) :
 ∃v g',(∀w1:World,(Instr.index t (a.eval o) (a.eval oi)).run F.P w1=.ok v w1)/\Inv F S' g' (a.put (some d) v) w:=by
 simp only[ev]at hev;split at hev
 .rename_i s n hs hn;obtain⟨k,hk⟩:=N5 h hn hoi hmi;have hv:a.eval o=.string ⟨s.toArray⟩:=L7 h hs ho hm;split at hev
  .rename_i hcond;unfold isStr at ht;split at ht
   .rename_i hu;obtain⟨g',hg⟩:=Ie (v:=.int .u8 (s.getD n.toNat 0).toNat) h hd hev rfl
    grind[gw]
   .cases ht
  .cases hev
 .cases hev
theorem AFf(h:Inv F S g a w){d:Nat}{op:UnOp}{o:Operand}{x:Opd}(hd:d<F.N)(hev:ev (.un d op x) S=some S')(ho:Bh o x=true)(hm:∀p∈Bk o x,Mt F.A F.P p.1 p.2) :
 ∃v g',(∀w1:World,(Op.unary op (a.eval o)).run F.P w1=.ok v w1)/\Inv F S' g' (a.put (some d) v) w:=by
 simp only[ev]at hev;split at hev
 .rename_i x' hx;have hv:=L7 h hx ho hm;split at hev
  .rename_i t ht;cases x' with
   |bool b=>
    have hv':a.eval o=.bool b:=hv;cases op<;>simp[unT]at ht;subst ht;obtain⟨g',hg⟩:=Ie (v:=.bool !b) h hd hev rfl;exact⟨_,g',by rw[hv'];intro w1;rfl,hg⟩
   |int k n=>
    have hv':a.eval o=.int k n:=hv;cases op<;>simp[unT]at ht;subst ht;obtain⟨g',hg⟩:=Ie (v:=.int k (k.wrap (-n))) h hd hev rfl;refine⟨_,g',?_,hg⟩;rw[hv',<-Int.zero_sub];intro w1;rfl
   |_=>cases op<;>simp[unT]at ht
  .cases hev
 .cases hev
theorem vI(h:Inv F S g a w){d:Nat}{k:IntKind}{s t:TypeId}{o:Operand}{x:Opd}(hd:d<F.N)(hev:ev (.cvI d k x) S=some S')(ho:Bh o x=true)(hm:∀p∈Bk o x,Mt F.A F.P p.1 p.2)
 (ht:isInt F.P t k=true) (hs:(match F.P.underlying s with|some (.int _)=>true|_=>false)=true) :
 ∃v g',(∀w1:World,(convert s t (a.eval o)).run F.P w1=.ok v w1)/\Inv F S' g' (a.put (some d) v) w:=by
 simp only[ev]at hev;split at hev
 .rename_i n hn;obtain⟨k',hv⟩:=N5 h hn ho hm;obtain⟨g',hg⟩:=Ie (v:=.int k (k.wrap n)) h hd hev rfl;unfold isInt at ht;split at ht
  .rename_i k2 hu;simp only[decide_eq_true_eq]at ht;subst ht;split at hs
   .rename_i k3 hus;refine⟨_,g',?_,hg⟩;rw[hv];simp[convert,run_underlying hu,run_underlying hus,Conv.intToInt]
   .cases hs
  .cases ht
 .cases hev
theorem zu(h:Inv F S g a w){d:Nat}{m:Bool}{oa ob:Operand}{x y:Opd}(hd:d<F.N)(hev:ev (.mm d m x y) S=some S')(hoa:Bh oa x=true)(hob:Bh ob y=true)
 (hma:∀p∈Bk oa x,Mt F.A F.P p.1 p.2) (hmb:∀p∈Bk ob y,Mt F.A F.P p.1 p.2) {ts:Array TypeId} {t:TypeId} :
 ∃v g',(∀w1:World,((if m then Builtin.max_ ts t #[a.eval oa,a.eval ob] else Builtin.min_ ts t #[a.eval oa,a.eval ob]):Sem Value).run F.P w1=.ok v w1)/\Inv F S' g' (a.put (some d) v) w:=by
 simp only[ev]at hev;split at hev
 .rename_i k p k' q hp hq;split at hev
  .rename_i hk;subst hk;have h1:a.eval oa=.int k' p:=L7 h hp hoa hma;have h2:a.eval ob=.int k' q:=L7 h hq hob hmb;cases m with
   |true=>
    obtain⟨g',hg⟩:=Ie (x:=.int k' (if q>p then q else p)) (v:=.int k' (if q>p then q else p)) h hd (by simpa using hev) rfl
    grind[run_max_int2]
   |false=>
    obtain⟨g',hg⟩:=Ie (x:=.int k' (if q<p then q else p)) (v:=.int k' (if q<p then q else p)) h hd (by simpa using hev) rfl;refine⟨_,g',?_,hg⟩;rw[h1,h2];exact fun w1=>run_min_int2 w1 ts t k' k' p q
  .cases hev
 .cases hev
end
section
variable{F:Fix}{S S':St}{g g':Gh}{a a':Act}{w w':World}
theorem cG{P:Program}{w:World}{k:IntKind}{n:Int}{y:Nat}{c:BoundsCode}(h0:0<=n)(h1:n<=y):(Instr.sliceBound (.int k n) y c).run P w=.ok n.toNat w:=by
 simp[Instr.sliceBound,asIntOf,h0,h1,go_sem]
theorem KM(h:Inv F S g a w){len cap:Nat}{lo hi:Option Operand}{xlo xhi:Option Opd}{p:Nat×Nat}(hr:S.range len xlo xhi=some p)(hlc:len<=cap)(hlo:O2 lo xlo=true)(hhi:O2 hi xhi=true)
 (hml:∀p∈OA lo xlo,Mt F.A F.P p.1 p.2) (hmh:∀p∈OA hi xhi,Mt F.A F.P p.1 p.2) (sl:Bool) :
 p.1<=p.2/\p.2<=len/\∀w1:World,(Instr.sliceBounds sl len cap (lo.map a.eval) (hi.map a.eval) none).run F.P w1=.ok (p.1,p.2,cap) w1:=by
 unfold St.range at hr;split at hr
 .rename_i x y hx hy;split at hr
  .rename_i hc;cases hr;refine⟨by simp;omega,by simp;omega,fun w1=>?_⟩;have hhi':(match hi.map a.eval with|some v=>Instr.sliceBound v cap (if sl then .sliceAcap else .sliceAlen)|none=>(pure len:Sem Nat)).run F.P w1=.ok y.toNat w1:=by
    match hi,xhi,hhi with
    |none,none,_=>simp only[St.AFL,AB]at hy;subst hy;rfl|some o,some xo,hhi=>
     obtain⟨k,hk⟩:=N5 h hy hhi (fun p hp=>hmh p hp);simp only[Ab,hk];exact cG (by omega) (by omega)
   have hlo':(match lo.map a.eval with|some v=>Instr.sliceBound v y.toNat .sliceB|none=>(pure 0:Sem Nat)).run F.P w1=.ok x.toNat w1:=by
    match lo,xlo,hlo with
    |none,none,_=>simp only[St.AFL,AB]at hx;subst hx;rfl|some o,some xo,hlo=>
     obtain⟨k,hk⟩:=N5 h hx hlo (fun p hp=>hml p hp);simp only[Ab,hk];exact cG (by omega) (by omega)
   generalize hi.map a.eval=vh at *;generalize lo.map a.eval=vl at *;unfold Instr.sliceBounds;cases vh<;>cases vl<;>simp_all[go_sem]
  .cases hr
 .cases hr
theorem gU(h:Inv F S g a w){d:Nat}{t:TypeId}{o:Operand}{x:Opd}{lo hi:Option Operand}{xlo xhi:Option Opd}(hd:d<F.N)(hev:ev (.P2 d x xlo xhi) S=some S')(ht:isStr F.P t=true)(ho:Bh o x=true)
 (hlo:O2 lo xlo=true) (hhi:O2 hi xhi=true) (hm:∀p∈Bk o x,Mt F.A F.P p.1 p.2) (hml:∀p∈OA lo xlo,Mt F.A F.P p.1 p.2) (hmh:∀p∈OA hi xhi,Mt F.A F.P p.1 p.2) :
 ∃v g',(∀w1:World,(Instr.sliceAt t (a.eval o) (lo.map a.eval) (hi.map a.eval) none).run F.P w1=.ok v w1)/\Inv F S' g' (a.put (some d) v) w:=by
 simp only[ev]at hev;split at hev
 .rename_i s hs;have hv:a.eval o=.string ⟨s.toArray⟩:=L7 h hs ho hm;split at hev
  .rename_i p q hr;unfold isStr at ht;split at ht
   .rename_i hu;obtain⟨h1,h2,h3⟩:=KM h hr (AT _) hlo hhi hml hmh false;simp only at h1 h2 h3;obtain⟨g',hg⟩:=Ie (v:=.string ⟨((s.drop p).take (q-p)).toArray⟩) h hd hev rfl;refine⟨_,g',fun w1=>?_,hg⟩;have h3:=h3 w1;rw[hv,run_sliceAt_string _ _ _ _ _ _ hu];have hsz:(⟨s.toArray⟩:ByteArray).size=s.length:=by simp[ByteArray.size]
    have hex:(⟨s.toArray⟩:ByteArray).extract p q=⟨((s.drop p).take (q-p)).toArray⟩:=by
     apply ByteArray.ext;simp[ByteArray.data_extract,List.extract_eq_drop_take']
    simp[Instr.slice,run_underlying hu,hsz,go_sem]at h3 ⊢;simp[h3,hex,go_sem]
   .cases ht
  .cases hev
 .cases hev
theorem g9{P:Program}{w:World}{t el:TypeId}{i:TypeInfo}{ad:Option Addr}{len cap p q:Nat}{lo hi:Option Value}(hu:P.underlying t=some (.slice el))(hi':P.info? el=some i)
 (hb:(Instr.sliceBounds true len cap lo hi none).run P w=.ok (p,q,cap) w) :
 (Instr.sliceAt t (.slice ad len cap) lo hi none).run P w=.ok (.slice (if cap=p then ad else ad.map (·.add (p*i.size))) (q-p) (cap-p)) w:=by
 simp[Instr.sliceAt,Instr.slice,run_underlying hu,go_sem]at hb ⊢;simp[hb,Fv hi',go_sem]
theorem vM(h:Inv F S g a w){d e:Nat}{t:TypeId}{o:Operand}{x:Opd}{lo hi:Option Operand}{xlo xhi:Option Opd}(hd:d<F.N)(hev:ev (.sub d e x xlo xhi) S=some S')(he:EL F.P t e=true)(ho:Bh o x=true)
 (hlo:O2 lo xlo=true) (hhi:O2 hi xhi=true) (hm:∀p∈Bk o x,Mt F.A F.P p.1 p.2) (hml:∀p∈OA lo xlo,Mt F.A F.P p.1 p.2) (hmh:∀p∈OA hi xhi,Mt F.A F.P p.1 p.2) :
 ∃v g',(∀w1:World,(Instr.sliceAt t (a.eval o) (lo.map a.eval) (hi.map a.eval) none).run F.P w1=.ok v w1)/\Inv F S' g' (a.put (some d) v) w:=by
 obtain⟨el,ti,hu,hti,hsz,_,_⟩:=Et he;simp only[ev]at hev;split at hev
 .rename_i l hl;obtain⟨hok,hnow⟩:=Ft h hl ho hm;split at hev
  .rename_i xs hxs;have hxs':S.wide e l=true/\S.elems l=some xs:=by
    by_cases hw:S.wide e l=true
    .exact⟨hw,by simpa[hw] using hxs⟩
    .simp[hw]at hxs
   obtain⟨hwide,hxs⟩:=hxs';split at hev
   .rename_i p q hr;have fin:∀(ad:Option Addr) (cap:Nat) (ql:AN),a.eval o=.slice ad xs.length cap->xs.length<=cap->S.DJ d ⟨.one,[ql]⟩=some S'->(∀x,ql≠.ow x) ->
     (p<=q->q<=xs.length->BR F S g w (fun _=>False) ql (.slice (if cap=p then ad else ad.map (·.add (p*e))) (q-p) (cap-p))) ->
     ∃v g',(∀w1:World,(Instr.sliceAt t (a.eval o) (lo.map a.eval) (hi.map a.eval) none).run F.P w1=.ok v w1)/\Inv F S' g' (a.put (some d) v) w:=by
     intro ad cap ql hv hlc hp hq hok';obtain⟨h1,h2,h3⟩:=KM h hr hlc hlo hhi hml hmh true;obtain⟨g',hg⟩:=Ly h hd hp hq (hok' h1 h2);refine⟨_,g',?_,hg⟩;rw[hv,<-hsz];exact fun w1=>g9 hu hti (h3 w1)
    match l,hok with
    |.al r sub,⟨x,u,q1,q2,q3⟩=>
     have hwide':=hwide;simp only[St.wide,q1]at hwide';simp only[St.elems,q1,AG]at hxs;obtain⟨ys,hy,rfl⟩:=hxs;obtain⟨u',hu',hown⟩:=h.CL r _ q1;rw[q2]at hu';cases hu';cases x with
     |sl e' zs=>
      simp only[eOf,beq_iff_eq]at hwide';subst hwide';simp only[content,AB]at hy;subst hy;cases hown with
      |sc hh _ _=>exact hh.elim|nl hn=>
       have hxe:HD sub ([]:List (List T))=[]:=by cases sub<;>simp[HD]
       have hv:a.eval o=.slice none 0 0/\(sub=none\/sub=some (0,0)):=by
        cases sub with
        |none=>exact⟨q3,.inl rfl⟩|some pr=>
         obtain⟨lo0,m⟩:=pr;obtain⟨_,_,_,_,_,_,q3,_⟩|⟨_,q3,_,rfl,rfl⟩:=q3
         .cases q3
         .exact⟨q3,.inr rfl⟩
       obtain⟨hv,hsub⟩:=hv;rw[hxe]at fin;rcases hsub with rfl|rfl <;>
       .refine fin none 0 _ hv (EB _) hev (by simp) ?_;intro h1 h2;simp only[AQ]at h2;refine⟨_,_,q1,q2,?_⟩;have:p=0:=by omega
        subst this;have:q=0:=by omega
        subst this;exact .inr ⟨rfl,by simp,rfl,rfl,rfl⟩
      |sl c f k1 k2 k3 k4 k5 k6 k7 k8 k9 k10=>
       rename_i blk off len cap arr E;cases sub with
       |none=>
        have hv:a.eval o=.slice (some ⟨blk,off,none⟩) len cap:=q3;simp only[HD]at fin;refine fin (some ⟨blk,off,none⟩) cap _ (by rw[hv,k1]) (by omega) hev (by simp) ?_;intro h1 h2;refine⟨.sl e' zs,_,q1,q2,?_⟩;by_cases hc:cap=p
        .refine .inl ⟨blk,off,len,cap,off,cap-p,rfl,by simp[hc],by omega,rfl,fun hh=>(hh (by omega)).elim,Nat.le_add_right _ _⟩
        .refine .inl ⟨blk,off,len,cap,off+p*e',cap-p,rfl,by simp[hc,FE],by omega,rfl,fun _=>rfl,AT _⟩
       |some pr=>
        obtain⟨lo0,m⟩:=pr;obtain⟨blk',off',len',cap',off'',cap'',p1,p2,p3,p4,p5,p6⟩|⟨p1,_⟩:=q3
        case inr=>cases p1
        cases p1;have hlen:(HD (some (lo0,m)) zs).length=m:=by simp[HD];omega
        refine fin (some ⟨blk,off'',none⟩) cap'' _ (by rw[p2,hlen]) (by omega) hev (by simp) ?_;intro h1 h2;rw[hlen]at h2;refine⟨.sl e' zs,_,q1,q2,?_⟩;have hmul:(lo0+p)*e'=lo0*e'+p*e':=A3 ..;by_cases hc:cap''=p
        .exact .inl ⟨blk,off,len,cap,off'',cap''-p,rfl,by simp[hc],by omega,by omega,fun hh=>(hh (by omega)).elim,by omega⟩
        .have:=p5 (by omega);exact .inl ⟨blk,off,len,cap,off''+p*e',cap''-p,rfl,by simp[hc,FE],by omega,by omega,fun _=>by omega,by omega⟩
     |nil=>
      simp only[content,AB]at hy;subst hy;have hxe:HD sub ([]:List (List T))=[]:=by cases sub<;>simp[HD]
      cases hown with
      |sc hs _ _=>
       have hs':u=.slice none 0 0:=hs;have hv:a.eval o=.slice none 0 0:=by
        cases sub with
        |none=>exact(show a.eval o=u from q3).trans hs'|some pr=>exact q3.1.trans hs'
       have hsub:sub=none\/sub=some (0,0):=by
        cases sub with
        |none=>exact .inl rfl|some pr=>obtain⟨_,e1,e2⟩:=q3;exact .inr (by cases pr;simp_all)
       rw[hxe]at fin;rcases hsub with rfl|rfl
       .refine fin none 0 _ hv (EB _) hev (by simp) ?_;intro h1 h2;simp only[AQ]at h2;refine⟨.nil,u,q1,q2,?_⟩;refine⟨?_,by omega,by omega⟩;rw[hs'];have:p=0:=by omega
        subst this;have:q=0:=by omega
        subst this;simp
       .refine fin none 0 _ hv (EB _) hev (by simp) ?_;intro h1 h2;simp only[AQ]at h2;refine⟨.nil,u,q1,q2,?_⟩;refine⟨?_,by omega,by omega⟩;rw[hs'];have:p=0:=by omega
        subst this;have:q=0:=by omega
        subst this;simp
     |_=>simp[content]at hy
    |.vw s e' ys,hok=>
     simp only[St.elems,AB]at hxs;subst hxs;simp only[St.wide,beq_iff_eq]at hwide;subst hwide;obtain⟨vo,hvo⟩:∃vo,a.eval o=vo:=⟨_,rfl⟩;cases s with
     |own r=>
      obtain⟨hal,⟨S0,hS0,hO⟩,_⟩:=hok;rw[hvo]at hO;have hO2:=hO;cases hO with
      |sc hh _ _=>exact hh.elim|nl hn=>
       refine fin none 0 _ hvo (EB _) hev (by simp) ?_;intro h1 h2;simp only[AQ]at h2;have:p=0:=by omega
       subst this;have:q=0:=by omega
       subst this;exact⟨hal,⟨S0,hS0,by simpa using Own.nl hn⟩,trivial⟩
      |sl c f k1 k2 k3 k4 k5 k6 k7 k8 k9 k10=>
       rename_i blk off len cap arr E;refine fin (some ⟨blk,off,none⟩) cap _ (by rw[hvo,k1]) (by omega) hev (by simp) ?_;intro h1 h2;by_cases hc:cap=p
       .obtain⟨S1,hS1,hO3⟩:=hO2.sub (lo:=p) (n:=q-p) (off':=off) (cap':=cap-p) (by omega) (by omega) (AT _) (fun hh=>(hh (by omega)).elim) (by omega);exact⟨hal,⟨S1,fun b hb=>hS0 b (hS1 b hb),by simpa[hc] using hO3⟩,trivial⟩
       .obtain⟨S1,hS1,hO3⟩:=hO2.sub (lo:=p) (n:=q-p) (off':=off+p*e') (cap':=cap-p) (by omega) (by omega) (AT _) (fun _=>rfl) (AT _);exact⟨hal,⟨S1,fun b hb=>hS0 b (hS1 b hb),by simpa[hc,FE] using hO3⟩,trivial⟩
     |old k=>
      rw[hvo]at hok;have hV:View w (F.R k) (.sl e' ys) vo:=hok;cases hV with
      |sc hh=>exact hh.elim|nl=>
       refine fin none 0 _ hvo (EB _) hev (by simp) ?_;intro h1 h2;simp only[AQ]at h2;have:p=0:=by omega
       subst this;have:q=0:=by omega
       subst this;exact .nl
      |sl c k1 k2 k3 k4 k5 k6=>
       rename_i ad len cap;refine fin (some ad) cap _ (by rw[hvo,k1]) (by omega) hev (by simp) ?_;intro h1 h2;have hsubat:∀i j x,at2 ((ys.drop p).take (q-p)) i j=some x->i<q-p/\at2 ys (p+i) j=some x:=fun i j x hx=>Kb hx
       have hlen:((ys.drop p).take (q-p)).length=q-p:=by simp;omega
       have hrows:∀row∈(ys.drop p).take (q-p),row.length=e':=fun row hr=>k3 row (Cn (Gf hr))
       have hne:(ys.drop p).take (q-p)≠[]->ys≠[]/\cap≠p:=by
        intro hh;have:0<((ys.drop p).take (q-p)).length:=List.length_pos_iff.2 hh;rw[hlen]at this;refine⟨by rintro rfl;simp at h2;omega,by omega⟩
       have hV2:View w (F.R k) (.sl e' ((ys.drop p).take (q-p))) (.slice (some (if cap=p then ad else ad.add (p*e'))) (q-p) (cap-p)):=by
        have hadd:ad.spot=none->cap≠p->(if cap=p then ad else ad.add (p*e')).block=ad.block/\(if cap=p then ad else ad.add (p*e')).off=ad.off+p*e'/\(if cap=p then ad else ad.add (p*e')).spot=none:=by
         intro hsp hc;obtain⟨b,of,sp⟩:=ad;simp only at hsp;subst hsp;simp[hc,FE]
        refine .sl (fun i j=>c (p+i) j) hlen.symm (by omega) hrows ?_ ?_ ?_
        .intro hh;obtain⟨e1,e2⟩:=hne hh;obtain⟨f1,f2⟩:=k4 e1;obtain⟨g1,g2,g3⟩:=hadd f1 e2;exact⟨g3,by rw[g1];exact f2⟩
        .intro i j x hx;obtain⟨m1,m2⟩:=hsubat i j x hx;have hh:(ys.drop p).take (q-p)≠[]:=by intro hh;rw[hh]at hlen;simp at hlen;omega
         obtain⟨e1,e2⟩:=hne hh;obtain⟨g1,g2,g3⟩:=hadd (k4 e1).1 e2;rw[g1,g2];have:=k5 _ _ _ m2;rw[A3]at this;rw[<-this];congr 2;omega
        .intro i j x hx;exact k6 _ _ _ (hsubat i j x hx).2
       show View w (F.R k) _ _;by_cases hc:cap=p
       .rw[if_pos hc]at hV2 ⊢;exact hV2
       .rw[if_neg hc]at hV2 ⊢;exact hV2
    |.t x,hok=>
     cases x with
     |nil=>
      simp only[St.elems,AB]at hxs;subst hxs;refine fin none 0 _ hok (EB _) hev (by simp) ?_;intro h1 h2;simp only[AQ]at h2;have:p=0:=by omega
      subst this;have:q=0:=by omega
      subst this;rfl
     |_=>simp[St.elems]at hxs
    |.und,_=>simp[St.elems]at hxs|.ow _,_=>simp[St.elems]at hxs|.ep _ _ _,_=>simp[St.elems]at hxs|.vp _ _,_=>simp[St.elems]at hxs|.bp _ _,_=>simp[St.elems]at hxs|.fn _ _,_=>simp[St.elems]at hxs
   .cases hev
  .cases hev
 .cases hev
end
section
variable{F:Fix}{S S':St}{g g':Gh}{a a':Act}{w w':World}
theorem o9{P:Program}{w:World}{op:BinOp}{t:TypeId}{ox oy:Operand}{x y r:T}{vx vy:Value}(hx:Sc x vx)(hy:Sc y vy)(hr:Uo op x y=some r) :
 ∃v,(do eqGuard op t ox oy vx vy;binOp op t vx vy:Sem Value).run P w=.ok v w/\Sc r v:=by
 match x,y,hr with
 |.int k p,.int k' q,hr=>
  have hx':vx=.int k p:=hx;have hy':vy=.int k' q:=hy;subst hx' hy';have hg:(eqGuard op t ox oy (.int k p) (.int k' q)).run P w=.ok () w:=by cases op<;>simp[eqGuard]
  rw[Sem.run_bind,hg,Result.andThen_ok];simp only[Uo,AAf]at hr;cases op<;>simp only[vd,T0]at hr
  case shl=>split at hr<;>simp at hr;subst hr;rename_i hn;exact⟨_,by simp[binOp,Op.shift,hn],rfl⟩
  case shr=>split at hr<;>simp at hr;subst hr;rename_i hn;exact⟨_,by simp[binOp,Op.shift,hn],rfl⟩
  case quo=>
   split at hr
   .split at hr
    .simp at hr
    .rename_i hk hn;subst hk;cases hr;exact⟨_,by simp[binOp,Op.intDiv,hn],rfl⟩
   .simp at hr
  case rem=>
   split at hr
   .split at hr
    .simp at hr
    .rename_i hk hn;subst hk;cases hr;exact⟨_,by simp[binOp,Op.intDiv,hn],rfl⟩
   .simp at hr
  all_goals
   split at hr
   .rename_i hk;subst hk
    first
     |(cases hr;exact⟨_,by simp[binOp,Op.intArith,Op.intBits,Op.intCmp],rfl⟩)
     |simp at hr
   .simp at hr
 |.str p,.str q,hr=>
  have hx':vx=.string ⟨p.toArray⟩:=hx;have hy':vy=.string ⟨q.toArray⟩:=hy;subst hx' hy';have hg:(eqGuard op t ox oy (.string ⟨p.toArray⟩) (.string ⟨q.toArray⟩)).run P w=.ok () w:=by cases op<;>simp[eqGuard]
  rw[Sem.run_bind,hg,Result.andThen_ok];have hb:∀s:List UInt8,(⟨s.toArray⟩:ByteArray).toList=s:=fun s=>by rw[ByteArray.toList_eq]
  simp only[Uo,AAf]at hr;cases op<;>simp at hr
  case add=>
   obtain⟨hle,rfl⟩:=hr;refine⟨.string ⟨(p++q).toArray⟩,?_,rfl⟩;have hs:(⟨p.toArray⟩:ByteArray).size+(⟨q.toArray⟩:ByteArray).size<=9223372036854775807:=by
    simp only[ByteArray.size,Am,LA]at *;omega
   rw[<-ByteArray.mk_append_mk];exact run_string_add_sum w _ _ hs
  case eql=>subst hr;exact⟨_,by simp[binOp,Op.stringOp,hb],rfl⟩
  case neq=>subst hr;exact⟨.bool (p != q),by simp[binOp,Op.stringOp,hb,bne],rfl⟩
theorem pZ{ls:List AN}{ts:List T}(h:P3 ls=some ts):ls=ts.map .t:=by
 induction ls generalizing ts with
 |nil=>simp[P3]at h;subst h;rfl|cons l ls ih=>
  cases l<;>simp only[P3,AG,reduceCtorEq]at h
  grind
theorem XT:∀(m:Nat) {ks:List Kd} {as bs:List T} {r:Bool},NA ks as bs=some r ->
 ∃p q,NA (ks.take m) (as.take m) (bs.take m)=some p/\NA (ks.drop m) (as.drop m) (bs.drop m)=some q/\r=(p&&q)
 |0,ks,as,bs,r,h=>⟨true,r,by simp[NA],by simpa using h,by simp⟩|m+1,ks,as,bs,r,h=>by
  match ks,as,bs,h with
  | [],[],[],h=>simp[NA]at h;subst h;exact⟨true,true,by simp[NA],by simp[NA],rfl⟩|k::ks,a::as,b::bs,h=>
   simp only[NA]at h;split at h
   .rename_i p q hp hq;cases h;obtain⟨p',q',h1,h2,rfl⟩:=XT m hq;exact⟨p&&p',q',by simp[NA,hp,h1],by simpa using h2,by cases p<;>rfl⟩
   .cases h
def At(o:Nat)(xs:Array Value)(as:List T):Prop:=∀(c:Nat) x,as[c]?=some x->∃v,xs[o+c]?=some v/\Sc x v
theorem At.drop{o:Nat}{xs:Array Value}{as:List T}(h:At o xs as)(m:Nat):At (o+m) xs (as.drop m):=fun c x hx=>by
 rw[BU]at hx;obtain⟨v,hv,hs⟩:=h _ _ hx;exact⟨v,by rw[<-hv];congr 1;omega,hs⟩
theorem At.take{o:Nat}{xs:Array Value}{as:List T}(h:At o xs as)(m:Nat):At 0 (xs.extract o (o+m)) (as.take m):=fun c x hx=>by
 rw[Bb]at hx;split at hx
 .obtain⟨v,hv,hs⟩:=h _ _ hx;have:=(Aj.1 hv).1;exact⟨v,by rw[<-hv,Array.getElem?_extract,if_pos (by omega)];congr 1;omega,hs⟩
 .cases hx
theorem gz{P:Program}{w:World}{t:TypeId}{fs:Array Field}{i:TypeInfo}{xs:Array Value}{o:Nat}(hu:P.underlying t=some (.struct fs))(hi:P.info? t=some i) :
 (part t xs o).run P w=.ok (.agg (xs.extract o (o+i.size))) w:=by
 simp_all[part,isAgg,run_underlying hu,Nx,go_sem,Go.sizeOf,typeInfo]
theorem vZ{P:Program}{w:World}{d:Nat}{sub:TypeId->List Kd->Bool}
 (hsub:∀t ks as bs r (xs ys:Array Value),sub t ks=true->NA ks as bs=some r->At 0 xs as->At 0 ys bs->∃fs,P.underlying t=some (.struct fs)/\(Op.equalIn (d+1) t (.agg xs) (.agg ys)).run P w=.ok r w)
 {xs ys:Array Value} {fs:List Field} {ks:List Kd} {as bs:List T} {r:Bool} {o:Nat} (hf:Ld P sub o fs ks=true) (he:NA ks as bs=some r)
 (hx:At o xs as) (hy:At o ys bs):(Op.eqFields (d+1) xs ys fs).run P w=.ok r w:=by
 induction fs generalizing ks as bs r o with
 |nil=>
  cases ks<;>simp[Ld]at hf;cases as<;>cases bs<;>simp[NA]at he;subst he;rfl
 |cons f fs ih=>
  simp only[Ld,AD,B6,beq_iff_eq,bne_iff_ne]at hf;obtain⟨⟨h1,h2⟩,hf⟩:=hf;rcases hf with hf|hf
  .match ks,hf with
   |k::ks,hf=>
   simp only[AD]at hf;obtain⟨h3,h4⟩:=hf
   match as,bs,he with
   |x::as,y::bs,he=>
   simp only[NA]at he;split at he
   .rename_i p q hp hq;cases he;obtain⟨vx,hvx,hsx⟩:=hx 0 x rfl;obtain⟨vy,hvy,hsy⟩:=hy 0 y rfl;have ih':=ih h4 hq (hx.drop 1) (hy.drop 1);simp only[CO]at hvx hvy;have key:∃d',P.underlying f.type=some d'/\Nx d'=false/\(Op.equalIn (d+1) f.type vx vy).run P w=.ok p w:=by
     unfold ALq at h3;split at h3
     .rename_i k0 hu
      match x,y,hp with
      |.int k1 a,.int k2 b,hp=>
       simp only[eqT]at hp;split at hp
       .rename_i hk;subst hk;cases hp;have e1:vx=_:=hsx;have e2:vy=_:=hsy;subst e1 e2;exact⟨_,hu,rfl,run_equalIn_int w d f.type k1 k0 a b hu⟩
       .cases hp
     .rename_i hu
      match x,y,hp with
      |.bool a,.bool b,hp=>
       simp only[eqT,AB]at hp;subst hp;have e1:vx=_:=hsx;have e2:vy=_:=hsy;subst e1 e2;exact⟨_,hu,rfl,run_equalIn_bool w d f.type a b hu⟩
     .rename_i hu
      match x,y,hp with
      |.str a,.str b,hp=>
       simp only[eqT,AB]at hp;subst hp;have e1:vx=_:=hsx;have e2:vy=_:=hsy;subst e1 e2;refine⟨_,hu,rfl,?_⟩;have:=run_equalIn_string (P:=P) w d f.type ⟨a.toArray⟩ ⟨b.toArray⟩ hu;rw[this,ByteArray.toList_eq,ByteArray.toList_eq]
     .cases h3
    obtain⟨d',hu,hag,hrun⟩:=key;have hpart:∀(zs:Array Value) v,zs[o]?=some v->(part f.type zs f.offset).run P w=.ok v w:=by
     intro zs v hz;rw[h2];cases d'<;>simp_all[part,isAgg,run_underlying hu,Nx,go_sem]
    simp only[Op.eqFields];rw[if_pos h1];simp only[Sem.run_bind,hpart xs vx hvx,hpart ys vy hvy,hrun,Result.andThen_ok];cases p with
    |true=>simpa using ih'|false=>simp
   .cases he
  .split at hf
   .rename_i i hi;simp only[AD]at hf;obtain⟨h3,h4⟩:=hf;obtain⟨p,q,hp,hq,rfl⟩:=XT i.size he;obtain⟨gs,hu,hrun⟩:=hsub _ _ _ _ _ _ _ h3 hp (hx.take i.size) (hy.take i.size);have ih':=ih h4 hq (hx.drop i.size) (hy.drop i.size);simp only[Op.eqFields];rw[if_pos h1,h2];simp only[Sem.run_bind,gz hu hi,hrun,Result.andThen_ok];cases p with|true=>simpa using ih'|false=>simp
   .cases hf
theorem AAI{P:Program}{w:World}:∀(n d:Nat) t ks as bs r (xs ys:Array Value),nR P n t ks=true->NA ks as bs=some r->At 0 xs as->At 0 ys bs ->
 ∃fs,P.underlying t=some (.struct fs)/\(Op.equalIn (d+n+1) t (.agg xs) (.agg ys)).run P w=.ok r w
 |0,_,_,_,_,_,_,_,_,h,_,_,_=>by cases h
 |n+1,d,t,ks,as,bs,r,xs,ys,h,he,hx,hy=>by
  simp only[nR]at h;split at h
  .rename_i fs hu;simp only[AD,A8]at h;have hfo:P.fieldsOf t=fs:=by simp[Program.fieldsOf,hu]
   refine⟨fs,hu,?_⟩;rw[show d+(n+1)+1=(d+n+1)+1 from by omega,run_equalIn_struct w (d+n+1) t xs ys (by rw[hfo];exact hu) h.2,hfo];exact vZ (AAI n d) h.1 he hx hy
  .cases h
theorem ALF{r:T}{v v':Value}(ht:Sv r=false)(h:Sc r v)(h':Sc r v'):v=v':=by
 cases r with
 |top=>cases ht
 |un=>cases ht
 |sl=>exact h.elim|mp=>exact h.elim|_=>exact(Eq.trans (show v=_ from h) (show v'=_ from h').symm)
theorem XR{op:BinOp}{b:Bool}{r:T}(h:ZZ op b=some r):Sv r=false:=by
 unfold ZZ at h;split at h<;>cases h<;>rfl
theorem AA9{op:BinOp}{k:IntKind}{x y:Int}{r:T}(h:T0 op k x y=some r):Sv r=false:=by
 unfold T0 at h;split at h<;>first|(cases h;rfl)|(split at h<;>first|(cases h;done)|(cases h;rfl))|(cases h;done)
theorem AHF{op:BinOp}{k:IntKind}{x y:Int}{r:T}(h:vd op k x y=some r):Sv r=false:=by
 unfold vd at h;split at h
 .cases h
 .split at h<;>cases h<;>rfl
theorem ADV{op:BinOp}{x y r:T}(h:AAf op x y=some r):Sv r=false:=by
 unfold AAf at h;split at h
 .grind[AHF,AA9]
 .split at h
  .split at h<;>cases h;rfl
  .cases h;rfl
  .cases h;rfl
  .cases h
 .split at h<;>cases h<;>rfl
 .cases h
theorem AH2{c:Cls}{op:BinOp}{x y:Ent}{r:T}(h:S.bin c op x y=some r):Sv r=false:=by
 unfold St.bin at h;split at h
 .split at h
  .unfold Uo at h;split at h<;>first|exact ADV h|cases h
  .cases h
 .grind[XR]
 .grind[XR]
 grind[XR]
theorem vE(h:Inv F S g a w){d:Nat}{c:Cls}{op:BinOp}{t:TypeId}{ox oy:Operand}{x y:Opd}(hd:d<F.N)(hev:ev (.bin d c op x y) S=some S')(hc:jT F.P c t=true)(hox:Bh ox x=true)(hoy:Bh oy y=true)
 (hmx:∀p∈Bk ox x,Mt F.A F.P p.1 p.2) (hmy:∀p∈Bk oy y,Mt F.A F.P p.1 p.2) :
 ∃v g',(∀w1:World,(do eqGuard op t ox oy (a.eval ox) (a.eval oy);binOp op t (a.eval ox) (a.eval oy):Sem Value).run F.P w1=.ok v w1)/\Inv F S' g' (a.put (some d) v) w:=by
 simp only[ev]at hev;split at hev
 .rename_i ex ey hrx hry;split at hev
  .rename_i r hr;have rx:=Kt h hrx hox hmx;have ry:=Kt h hry hoy hmy;have one:∀{l:AN} {v:Value},Rd F S g w ⟨.one,[l]⟩ v->BR F S g w (fun _=>False) l v:=by
    rintro l v ⟨vs,h1,h2,_,h4⟩;obtain⟨u,hu,hok⟩:=h4 0 _ rfl;subst h1;cases vs with
    |nil=>simp at hu|cons v vs=>simp only[AI,AB]at hu;subst hu;exact hok
   suffices hs:∀w1:World,∃v,(do eqGuard op t ox oy (a.eval ox) (a.eval oy);binOp op t (a.eval ox) (a.eval oy):Sem Value).run F.P w1=.ok v w1/\Sc r v by
    obtain⟨v,h1,h2⟩:=hs w;obtain⟨g',hg⟩:=Ie h hd hev h2;refine⟨v,g',fun w1=>?_,hg⟩;obtain⟨v1,h3,h4⟩:=hs w1;rw[h3,ALF (AH2 hr) h4 h2]
   intro w1;unfold St.bin at hr;cases c with
   |num=>
    simp only at hr;split at hr
    .exact o9 (one rx) (one ry) hr
    .cases hr
   |bool=>
    simp only at hr;split at hr
    .rename_i p q;have e1:a.eval ox=.bool p:=one rx;have e2:a.eval oy=.bool q:=one ry;rw[e1,e2];have hu:F.P.underlying t=some .bool:=by
      unfold jT at hc;split at hc<;>simp_all
     have hg:(eqGuard op t ox oy (.bool p) (.bool q)).run F.P w1=.ok () w1:=by cases op<;>simp[eqGuard]
     rw[Sem.run_bind,hg,Result.andThen_ok];cases op<;>simp[ZZ]at hr
     .subst hr;exact⟨_,run_eql_bool w1 t p q hu,rfl⟩
     .subst hr;exact⟨_,run_neq_bool w1 t p q hu,rfl⟩
    .cases hr
   |sl=>
    simp only at hr;split at hr
    .rename_i l;split at hr
     .rename_i b hb;have e2:a.eval oy=.slice none 0 0:=one ry;rw[e2];have hu:∃e,F.P.underlying t=some (.slice e):=by
       unfold jT at hc;split at hc<;>simp_all
      obtain⟨e,hu⟩:=hu;have hnil:∃ad n c,a.eval ox=.slice ad n c/\ad.isNone=b:=by
       match l,one rx,hb with
       |.t x,hl,hb=>
        cases x<;>simp[St.Pl]at hb;subst hb;exact⟨none,0,0,hl,rfl⟩
       |.vw _ e' [],_,hb=>simp[St.Pl]at hb|.vw (.own r' _) e' (_::xs),⟨_,⟨S0,_,hO⟩,_⟩,hb=>
        simp only[St.Pl,AB]at hb;subst hb;generalize a.eval ox=v at hO;cases hO with
        |sc hh _ _=>exact hh.elim|sl=>exact⟨_,_,_,rfl,rfl⟩
       |.vw (.old k) e' (_::xs),hl,hb=>
        simp only[St.Pl,AB]at hb;subst hb;have hV:View w (F.R k) (.sl e' (_::xs)) (a.eval ox):=hl;generalize a.eval ox=v at hV;cases hV with
        |sc hh=>exact hh.elim|sl=>exact⟨_,_,_,rfl,rfl⟩
       |.al r' none,⟨x,u,q1,q2,q3⟩,hb=>
        have q3':a.eval ox=u:=q3;obtain⟨u',hu',hown⟩:=h.CL r' _ q1;rw[q2]at hu';cases hu';simp only[St.Pl,q1]at hb;split at hb
        .simp at hb;subst hb;rename_i heq;cases heq;cases hown with|sc hh _ _=>exact⟨none,0,0,q3'.trans hh,rfl⟩
        .simp at hb;subst hb;rename_i heq;cases heq;cases hown with|sc hh _ _=>exact hh.elim|sl=>exact⟨_,_,_,q3',rfl⟩
        .cases hb
       |.al r' (some _),_,hb=>simp[St.Pl]at hb
      obtain⟨ad,n,cp,e1,hb'⟩:=hnil;rw[e1];have hg:(eqGuard op t ox oy (.slice ad n cp) (.slice none 0 0)).run F.P w1=.ok () w1:=by cases op<;>simp[eqGuard]
      rw[Sem.run_bind,hg,Result.andThen_ok];cases op<;>simp[ZZ]at hr
      .subst hr;rw[<-hb'];exact⟨_,Lib.run_eql_slice_nil w1 t e ad n cp 0 0 hu,rfl⟩
      .subst hr;rw[<-hb'];exact⟨_,run_neq_slice_nil w1 t e ad n cp hu,rfl⟩
     .cases hr
    .cases hr
   |agg ks=>
    simp only at hr;split at hr
    .rename_i as bs;split at hr
     .rename_i as' bs' ha hb;split at hr
      .rename_i b heq;have ea:=pZ ha;have eb:=pZ hb;subst ea eb;have hcc:∃fs,F.P.underlying t=some (.struct fs)/\(nR F.P 4 t ks&&!F.P.eqGuardType F.P.depth t)=true:=by
        unfold jT at hc;cases hu:F.P.underlying t with
        |none=>simp[hu]at hc|some dd=>
         rw[hu]at hc;cases dd<;>first|exact⟨_,rfl,hc⟩|simp at hc
       obtain⟨fs,hu,hcc⟩:=hcc;simp only[AD,A8]at hcc;obtain⟨hf,hgd⟩:=hcc;have cells:∀{ts:List T} {v:Value},Rd F S g w ⟨.agg,ts.map .t⟩ v->∃xs:Array Value,v=.agg xs/\At 0 xs ts:=by
        rintro ts v ⟨vs,h1,_,_,h4⟩;refine⟨vs.toArray,h1,fun c x hx=>?_⟩;obtain⟨u,hu,hok⟩:=h4 c (.t x) (by simp[hx]);exact⟨u,by simpa using hu,hok⟩
       obtain⟨xs,e1,hxs⟩:=cells rx;obtain⟨ys,e2,hys⟩:=cells ry;rw[e1,e2];have hg:(eqGuard op t ox oy (.agg xs) (.agg ys)).run F.P w1=.ok () w1:=run_eqGuard_agg w1 op t ox oy xs ys hgd;rw[Sem.run_bind,hg,Result.andThen_ok];have hrun:(Op.equalIn 10000 t (.agg xs) (.agg ys)).run F.P w1=.ok b w1:=(AAI 4 9995 _ _ _ _ _ _ _ hf heq hxs hys).choose_spec.2;cases op<;>simp[ZZ]at hr
       .subst hr;exact⟨.bool b,(by rw[run_eql_struct,hrun];rfl),rfl⟩
       .subst hr;exact⟨.bool !b,(by rw[run_neq_struct,hrun];rfl),rfl⟩
      .cases hr
     .cases hr
    .cases hr
  .cases hev
 .cases hev
end
section
variable{F:Fix}{S S':St}{g g':Gh}{a a':Act}{w w':World}
theorem ABE{ns:List (Option Nat)}{vs:List Value}{i:Nat}{n:Option Nat}(h:ns[i]?=some n):(Gu ns vs)[i]?=some (mkV (shN n) ((vs.drop (Ou (ns.take i))).take (D6 n))):=by
 induction ns generalizing vs i with
 |nil=>simp at h|cons m ns ih=>
  cases i with
  |zero=>
   simp only[AI,AB]at h;subst h;cases m with
   |none=>cases vs<;>simp[Gu,mkV,shN,D6,Ou]
   |some k=>simp[Gu,mkV,shN,D6,Ou]
  |succ i=>
   simp only[Be]at h;cases m with
   |none=>simp only[Gu,Be,Gq,Ou,D6];rw[ih h,CX];rfl|some k=>simp only[Gu,Be,Gq,Ou,D6];rw[ih h,CX];rfl
theorem vJ(h:Inv F S g a w){d i:Nat}{o:Operand}{x:Opd}(hd:d<F.N)(hev:ev (.ext d x i) S=some S')(ho:Bh o x=true) :
 ∃v g',(∀w1:World,(Instr.extract (a.eval o) i).run F.P w1=.ok v w1)/\Inv F S' g' (a.put (some d) v) w:=by
 simp only[ev]at hev;split at hev
 .rename_i s
  match o,ho with
  |.tmp t,ho=>
   simp only[Bh,beq_iff_eq]at ho;subst ho;split at hev
   .rename_i ns cs hs;split at hev
    .rename_i n hn;split at hev
     .rename_i hle;split at hev
      .rename_i S1 ls htk;obtain⟨_,h2,h3⟩:=h.tms t _ hs;have hrd:Rd F S g w ⟨shN n,((NJ t 0 cs).drop (Ou (ns.take i))).take (D6 n)⟩ (mkV (shN n) (((g.tv t).drop (Ou (ns.take i))).take (D6 n))):=by
        refine⟨_,rfl,by simp[iw,h3],?_,?_⟩
        .intro x hx;have hx:=Cn (Gf hx);obtain⟨c,hc⟩:=BE hx;rw[P6,AG]at hc;obtain⟨l,_,hl⟩:=hc;exact ADN hl
        .intro c l hl;simp only[Bb,BU]at hl ⊢;split at hl
         .rename_i hc;rw[P6,AG]at hl;obtain⟨l0,hl0,rfl⟩:=hl;have hat:S.at (.tmp t (Ou (ns.take i)+c))=some l0:=by simp[St.at,hs,hl0]
          obtain⟨v,hv,hok⟩:=h.CL _ _ hat;exact⟨v,by rw[if_pos hc];exact hv,by simpa using ADM rfl hat hv hok⟩
         .cases hl
       obtain⟨vs,nf,h4,hi,hc,_⟩:=Rx h hrd htk;obtain⟨g',hg⟩:=hi.DJ (e:=⟨shN n,ls⟩) hev hd hc;refine⟨_,g',?_,by rw[<-h4]at hg;exact hg⟩;have hv:a.eval (.tmp t)=.tuple (Gu ns (g.tv t)).toArray:=h2;rw[hv];have:=ABE (vs:=g.tv t) hn;simp[Instr.extract,this]
      .cases hev
     .cases hev
    .cases hev
   .cases hev
 .cases hev
theorem AFk{fp:Blk}{l:AN}{v:Value}(hp:l.plain=true)(h:BR F S g w fp l v):D4 F g w l v:=by
 match l,h with
 |.t _,h=>exact h|.und,h=>exact h|.vw (.old _) _ _,h=>exact h|.vp (.old _) _,h=>exact h|.bp _ _,h=>exact h|.vw (.own _ _) _ _,_=>cases hp
 |.vp (.own _ _) _,_=>cases hp
 |.ow _,_=>cases hp
 |.al _ _,_=>cases hp
 |.ep _ _ _,_=>cases hp
 |.fn _ _,_=>cases hp
theorem vV(h:Inv F S g a w){os:List Operand}{xs:List Opd}{es:List Ent}(hr:S.rds xs=some es)(ho:K7 os xs=true)(hm:∀p∈Dw os xs,Mt F.A F.P p.1 p.2) :
 es.length=os.length/\∀(i:Nat) e,es[i]?=some e->∃o,os[i]?=some o/\Rd F S g w e (a.eval o):=by
 induction os generalizing xs es with
 |nil=>
  grind[K7,St.rds]
 |cons o os ih=>
  cases xs with
  |nil=>simp[K7]at ho|cons x xs=>
   simp only[K7,AD]at ho;simp only[St.rds]at hr;split at hr
   .rename_i e es' he hes;cases hr;obtain⟨h1,h2⟩:=ih hes ho.2 (fun p hp=>hm p (by simp[Dw,hp]));refine⟨by simp[h1],fun i e' hi=>?_⟩;cases i with|zero=>simp only[AI,AB]at hi;subst hi;exact⟨o,rfl,Kt h he ho.1 (fun p hp=>hm p (by simp[Dw,hp]))⟩|succ i=>simpa using h2 i e' (by simpa using hi)
   .cases hr
theorem gP(h:Inv F S g a w){d fn:Nat}{f:Ba}{os:Array Operand}{xs:List Opd}(hd:d<F.N)(hev:ev (.Pk d f xs) S=some S')(ho:K7 os.toList xs=true)(hm:∀p∈Dw os.toList xs,Mt F.A F.P p.1 p.2)(hf:Mt F.A F.P fn f) :
 ∃g',Inv F S' g' (a.put (some d) (.func (.func fn) #[] (os.map a.eval))) w:=by
 simp only[ev]at hev;split at hev
 .rename_i es hes;split at hev
  .rename_i hall;obtain⟨h1,h2⟩:=vV h hes ho hm;simp only[List.all_eq_true,AD,beq_iff_eq]at hall;refine Ly h hd hev (by simp) ⟨fn,os.map a.eval,rfl,hf,?_,?_⟩
   .simp only[IA];have:(es.flatMap Ent.cs).length=es.length:=by
     clear h1 h2 hes hev
     induction es with
     |nil=>rfl|cons e es ih=>
      simp only[CP,List.length_append,List.length_cons];rw[ih (fun x hx=>hall x (Au _ hx)),(hall e (by simp)).1.2];omega
    rw[this,h1];simp
   .intro i l c hl hc;have hget:∀(es:List Ent),(∀x∈es,x.cs.length=1)->∀(i:Nat) l,(es.flatMap Ent.cs)[i]?=some l->∃e,es[i]?=some e/\e.cs=[l]:=by
     intro es
     induction es with
     |nil=>intro _ i l hl;simp at hl
     |cons e es ih=>
      intro hone i l hl;obtain⟨x,hx⟩:=List.length_eq_one_iff.1 (hone e (by simp));simp only[CP,hx,List.cons_append,List.nil_append]at hl;cases i with
      |zero=>simp only[AI,AB]at hl;subst hl;exact⟨e,rfl,hx⟩|succ i=>simpa using ih (fun y hy=>hone y (Au _ hy)) i l (by simpa using hl)
    obtain⟨e,he,hcs⟩:=hget es (fun x hx=>(hall x hx).1.2) i l hl;obtain⟨o,ho',vs,q1,q2,q3,q4⟩:=h2 i e he;obtain⟨u,hu,hok⟩:=q4 0 l (by simp[hcs]);have hcv:c=a.eval o:=by
     rw[Array.getElem?_map,AG]at hc;obtain⟨o',ho2,rfl⟩:=hc;rw[<-Array.getElem?_toList]at ho2;rw[ho']at ho2;cases ho2;rfl
    have hpl:=(hall e (AX he)).2 l (by simp[hcs]);have hsh:a.eval o=u:=by
     have hlen:vs.length=1:=by rw[q2,hcs];rfl
     match vs,hlen with
     | [v0],_=>
      simp only[AI,AB]at hu;subst hu;have:=(hall e (AX he)).1.1;rw[q1];cases hse:e.sh<;>simp[hse,nn]at this;rfl
    rw[hcv,hsh];exact AFk hpl hok
  .cases hev
 .cases hev
end
section
variable{F:Fix}{S S':St}{g g':Gh}{a a':Act}{w w':World}
theorem RD(cs:List Value)(off k:Nat)(cells:Array Value) :
 ((cs.zipIdx k).foldl (fun (xs:Array Value) (p:Value×Nat)=>xs.setIfInBounds (off+p.2) p.1) cells).toList=C2 cells.toList (off+k) cs:=by
 induction cs generalizing k cells with
 |nil=>rfl|cons c cs ih=>simp only[List.zipIdx_cons,List.foldl_cons,ih,C2,Array.toList_setIfInBounds];rfl
def EV(F:Fix)(S:St)(g:Gh)(w:World)(ls:List AN)(vs:List Value):Prop:=
 vs.length=ls.length/\(∀x,AN.ow x∉ls)/\∀(c:Nat) (l:AN),ls[c]?=some l->∃u,vs[c]?=some u/\BR F S g w (fun _=>False) l u
theorem EV.set{ls cs:List AN}{vs us:List Value}{o:Nat}(h:EV F S g w ls vs)(hc:EV F S g w cs us)(hle:o+cs.length<=ls.length):EV F S g w (C2 ls o cs) (C2 vs o us):=by
 obtain⟨h1,h2,h3⟩:=h;obtain⟨c1,c2,c3⟩:=hc;have hg:=Ez ls o cs hle;have hg':=Ez vs o us (by omega);refine⟨by simp[KQ,h1],?_,?_⟩
 .grind[List.getElem?_of_mem,List.mem_of_getElem?]
 grind
theorem AEy(ls:List AN):F6 ls=false->∀l∈ls,l≠.t .top/\l≠.und:=by
 induction ls with
 |nil=>simp|cons x ls ih=>
  intro ht l hl;cases Af.1 hl with
  |inl e=>subst e;constructor<;>(rintro rfl;simp[F6]at ht)
  |inr e=>exact ih (by unfold F6 at ht;split at ht<;>simp_all) l e
theorem AG3(h:Inv F S g a w){e:Ent}{v:Value}{n:Nat}(hr:Rd F S g w e v)(hn:e.cs.length=n)(hs:Ej e.sh n=true)(ht:F6 e.cs=false):EV F S g w e.cs v.cells.toList/\v.cells.size=n:=by
 obtain⟨vs,h1,h2,h3,h4⟩:=hr;have hone:∀v∈vs,v.oneCell'=true:=by
  intro u hu;obtain⟨c,hc⟩:=BE hu;have hlt:c<e.cs.length:=by rw[<-h2];exact(AJ.1 hc).1
  obtain⟨u',hu',hok⟩:=h4 c e.cs[c] (by simp[hlt])
  grind[AEy,List.getElem_mem,ny]
 have hcl:=S6 hs (h2.trans hn) hone;rw[h1];exact⟨by rw[hcl];exact⟨h2,h3,h4⟩,by rw[<-BC,hcl,h2,hn]⟩
theorem zV(h:Inv F S g a w){fs:Array Field}{places:List (Nat×Nat)}(hpl:∀(i:Nat) f t,fs[i]?=some f->F.P.info? f.type=some t->places[i]?=some (f.offset,t.size)) :
 ∀(ps:List (Nat×Operand)) (qs:List (Nat×Nat×Opd)) (ls ls':List AN) (cells:Array Value),Lc F.P fs ps qs=true->(∀p∈Jq ps qs,Mt F.A F.P p.1 p.2)->JE S ls qs=some ls'->EV F S g w ls cells.toList ->
  ∃cells',Instr.fill (places.toArray[·]?) cells (ps.map fun p=>(p.1,a.eval p.2))=some cells'/\EV F S g w ls' cells'.toList
 | [],qs,ls,ls',cells,hf,_,hb,hfr=>by
  cases qs<;>simp[Lc]at hf;simp only[JE,AB]at hb;subst hb;exact⟨cells,rfl,hfr⟩
 |(i,o)::ps,qs,ls,ls',cells,hf,hm,hb,hfr=>by
  match qs,hf with
  |(off,n,x)::qs,hf=>
   simp only[Lc,AD]at hf;obtain⟨⟨hf1,hf2⟩,hf3⟩:=hf;split at hf1
   .rename_i f hfi;simp only[AD,beq_iff_eq]at hf1;obtain⟨hoff,hsz⟩:=hf1;split at hsz
    .rename_i t ht;simp only[beq_iff_eq]at hsz;simp only[JE]at hb;split at hb
     .rename_i e he;split at hb
      .rename_i hc;obtain⟨c1,c2,c3,c4⟩:=hc;have hrd:=Kt h he hf2 (fun p hp=>hm p (by simp[Jq,hp]));obtain⟨hfc,hvs⟩:=AG3 h hrd c1 c2 c3;have hset:=hfr.set hfc (o:=off) (by omega);have hfold:((a.eval o).cells.zipIdx.foldl (fun cs (p:Value×Nat)=>cs.setIfInBounds (off+p.2) p.1) cells).toList=C2 cells.toList off (a.eval o).cells.toList:=by
        rw[<-Array.foldl_toList,Array.toList_zipIdx];exact RD _ off 0 cells
       rw[<-hfold]at hset;obtain⟨cells',hfill,hfr'⟩:=zV h hpl ps qs _ _ _ hf3 (fun p hp=>hm p (by simp[Jq,hp])) hb hset;refine⟨cells',?_,hfr'⟩;simp only[List.map_cons,Instr.fill,A0,hpl i f t hfi ht,hoff,hsz];have hle:¬(off+(a.eval o).cells.size>cells.size):=by
        have:=hfr.1;simp only[BC]at this;omega
       rw[if_neg (by simp[hvs];omega)];simpa only[A0] using hfill
      .cases hb
     .cases hb
    .cases hsz
   .cases hf1
theorem Yf(h:Inv F S g a w){d:Nat}{t:TypeId}{fs:Array Field}{zs:List T}{ps:Array (Nat×Operand)}{qs:List (Nat×Nat×Opd)}(hd:d<F.N)(hev:ev (.build d zs qs) S=some S')(hz:Tc F.P t zs=true)
 (hu:F.P.underlying t=some (.struct fs)) (hall:fs.toList.all (fun f=>(F.P.info? f.type).isSome)=true) (hf:Lc F.P fs ps.toList qs=true) (hm:∀p∈Jq ps.toList qs,Mt F.A F.P p.1 p.2) :
 ∃v g',(∀w1:World,(Instr.build t (ps.map fun (i,x)=>(i,a.eval x))).run F.P w1=.ok v w1)/\Inv F S' g' (a.put (some d) v) w:=by
 simp only[ev]at hev;split at hev
 .rename_i ls hls;obtain⟨i,v,hi,hzv,_,_,hc⟩:=zeroCells (F:=F) (S:=S) (g:=g) (w:=w) hz;have hplaces:∀(l:List Field),l.all (fun f=>(F.P.info? f.type).isSome)=true->∃places,l.mapM (fun f=>(F.P.info? f.type).map fun i=>(f.offset,i.size))=some places /\
   ∀(i:Nat) f t,l[i]?=some f->F.P.info? f.type=some t->places[i]?=some (f.offset,t.size):=by
   intro l
   induction l with
   |nil=>intro _;exact⟨[],rfl,by simp⟩
   |cons f l ih=>
    intro hl;simp only[List.all_cons,AD]at hl;obtain⟨t,ht⟩:=BG.1 hl.1;obtain⟨pl,hp1,hp2⟩:=ih hl.2;refine⟨(f.offset,t.size)::pl,by simp[List.mapM_cons,ht,hp1],?_⟩;intro i f' t' hi ht';cases i with
    |zero=>simp only[AI,AB]at hi;subst hi;rw[ht]at ht';cases ht';rfl
    |succ i=>simpa using hp2 i f' t' (by simpa using hi) ht'
  obtain⟨places,hp1,hp2⟩:=hplaces fs.toList hall;obtain⟨cells',hfill,hfr⟩:=zV h (fs:=fs) (places:=places) (fun i f t hi ht=>hp2 i f t (by simpa using hi) ht) ps.toList qs (zs.map .t) ls v.cells hf hm hls ⟨hc.1,by simp,hc.2.1⟩;obtain⟨g',hg⟩:=h.DJ (e:=⟨.agg,ls⟩) hev hd (Cells.free hfr.1 hfr.2.2 hfr.2.1);refine⟨_,g',fun w1=>run_build w1 t _ cells' ?_,by simpa[mkV] using hg⟩;simp only[Program.built,hi,hu,hzv,hp1];rw[<-hfill];congr 1;simp
 .cases hev
end
section
variable{F:Fix}{S S':St}{g g':Gh}{a a':Act}{w w':World}
theorem Inv.newRow(h:Inv F S g a w){d:Nat}{x:T}{v:Value}{S0:Blk}(hd:d<F.N)(hp:S.DJ d ⟨.one,[.ow x]⟩=some S')(hs:Still w w')(hw:∀b,b<w.heap.size->w'.heap[b]?=w.heap[b]?)(ho:Own w' x v S0)
 (hS:∀b,S0 b->w.heap.size<=b\/((¬F.K b)/\(∀r,Bl S r->¬g.fp r b)/\∀id,(get S.bx id).isSome->b≠g.β id)):∃g',Inv F S' g' (a.put (some d) v) w':=by
 have h':=h.grow hs hw;refine h'.DJ (vs:=[v]) (nf:=fun _=>S0) hp hd ⟨rfl,?_,?_⟩
 .intro c l hl;cases c with|zero=>simp only[AI,AB]at hl;subst hl;exact⟨v,rfl,ho⟩|succ c=>simp at hl
 .intro c y hy;refine⟨fun b hb hK=>?_,fun r hr b hb hf=>?_,fun id hid hb=>?_,fun c' y' hy' hne=>?_⟩
  .rcases hS b hb with hb|hb
   .exact absurd (Nat.lt_of_lt_of_le (h.rlt b hK) h.size) (by omega)
   .exact hb.1 hK
  .rcases hS b hb with hb'|hb'
   .obtain⟨x,hx⟩:=hr;obtain⟨u,_,hok⟩:=h.CL r _ hx;exact absurd (Own.lt hok b hf) (by omega)
   .exact hb'.2.1 r hr hf
  .rcases hS _ hb with hb'|hb'
   .obtain⟨ls,hls⟩:=BG.1 hid;obtain⟨⟨E,hE⟩,_⟩:=h.bxs id ls hls;exact absurd (Aj.1 hE).1 (by omega)
   .exact hb'.2.2 id hid rfl
  .grind
theorem oM{e:Nat}{xs:List (List T)}{blk off cap:Nat}{arr:Array Value}{E:TypeId}(hr:D7 w blk arr E e)(hlen:xs.length<=cap)(hrow:∀row∈xs,row.length=e)(hcap:off+cap*e<=arr.size)
 (hc:∀i j x,at2 xs i j=some x->∃v,arr[off+i*e+j]?=some v/\Own w x v fun _=>False):Own w (.sl e xs) (.slice (some ⟨blk,off,none⟩) xs.length cap) (fun b=>b=blk):=by
 refine .sl (fun i j=>(arr[off+i*e+j]?).getD undef) (fun _ _ _=>False) rfl hlen hrow hr hcap ?_ ?_ (by simp) (by simp) (by simp)
 .grind
 grind
theorem Um{n:Nat}{zs:List T}{i j:Nat}{x:T}(h:at2 (rowsOf n zs) i j=some x):i<n/\zs[j]?=some x:=by
 grind[at2,rowsOf]
theorem O1{z:Array Value}{n i j:Nat}{v:Value}(hj:z[j]?=some v)(hi:i<n):(madeCells z (n*z.size))[i*z.size+j]?=some v:=by
 obtain⟨hlt,hv⟩:=Aj.1 hj;have hb:i*z.size+j<n*z.size:=by
  have:(i+1)*z.size<=n*z.size:=AV _ hi
  grind[Nat.add_mul]
 grind[Nat.add_comm,Nat.add_mul_mod_self_right,Nat.mod_eq_of_lt,madeCells,Option.some.injEq]
theorem AAj{v:Value}{x:T}(h:ML v x=true):M3 x=false:=by
 unfold ML at h;split at h
 .rename_i y _;cases x<;>first|rfl|(cases y<;>simp[AIc]at h)
 .cases h
theorem qF{vs:List Value}{zs:List T}(h:SA vs zs=true):vs.length=zs.length/\∀(c:Nat) x,zs[c]?=some x->∃v,vs[c]?=some v/\Own w x v fun _=>False:=by
 induction vs generalizing zs with
 |nil=>cases zs<;>simp_all[SA]
 |cons v vs ih=>
  cases zs with
  |nil=>simp[SA]at h|cons z zs=>
   simp only[SA,AD,B6]at h;obtain⟨h0,h1⟩:=ih h.2;refine⟨by simp[h0],fun c x hx=>?_⟩;cases c with
   |zero=>
    simp only[AI,AB]at hx;subst hx;refine⟨v,rfl,?_⟩;rcases h.1 with hc|hc
    .exact .sc (QE hc) ((QE hc).one (AAj hc)) (by simp)
    .unfold zq at hc;split at hc
     .exact .nl (by simp)
     .cases hc
   |succ c=>simpa using h1 c x (by simpa using hx)
def AG9(P:Program)(t:TypeId):Array Value×Unit:=(match P.info? t with|some i=>(match i.zero with|some v=>v.cells|none=>#[])|none=>#[],())
theorem Y5{P:Program}{t:TypeId}{zs:List T}(h:o7 P t zs=true):∃i v,P.info? t=some i/\i.zero=some v/\i.size=zs.length/\v.cells.size=zs.length /\
 ∀(c:Nat) x,zs[c]?=some x->∃u,v.cells[c]?=some u/\Own w x u fun _=>False:=by
 unfold o7 at h;split at h
 .rename_i i hi;simp only[AD,beq_iff_eq]at h;obtain⟨h1,h2⟩:=h;split at h1
  .rename_i v hv;obtain⟨h3,h4⟩:=qF (w:=w) h1
   grind
  .cases h1
 .cases h
theorem gQ(h:Inv F S g a w){d:Nat}{t el:TypeId}{zs:List T}{on oc:Operand}{n c:Opd}(hd:d<F.N)(hev:ev (.Ji d zs n c) S=some S')(he:EL F.P t zs.length=true)(hu:F.P.underlying t=some (.slice el))
 (hz:o7 F.P el zs=true) (hon:Bh on n=true) (hoc:Bh oc c=true) (hmn:∀p∈Bk on n,Mt F.A F.P p.1 p.2) (hmc:∀p∈Bk oc c,Mt F.A F.P p.1 p.2) :
 ∃v w' g',(Instr.makeSlice t (a.eval on) (a.eval oc)).run F.P w=.ok v w'/\Inv F S' g' (a.put (some d) v) w'/\∀b,b<w.heap.size->w'.heap[b]?=w.heap[b]?:=by
 simp only[ev]at hev;split at hev
 .rename_i k k' hn hc;split at hev
  .rename_i hcond;obtain⟨rfl,h0,h1⟩:=hcond;obtain⟨kn,hkn⟩:=N5 h hn hon hmn;obtain⟨kc,hkc⟩:=N5 h hc hoc hmc;obtain⟨el',ti,hu',hti,hsz,hby,hpos⟩:=Et he;rw[hu]at hu';cases hu';obtain⟨i,z,hi,hzv,his,hzsz,hzc⟩:=Y5 (w:=World.push w (.cells ((fun z=>madeCells z (k'.toNat*ti.size)) (AG9 F.P el).1) el (0,0))) hz;rw[hti]at hi;cases hi;have hzs0:(AG9 F.P el).1=z.cells:=by simp[AG9,hti,hzv]
   rw[hzs0]at hzc;rw[hkn,hkc];have hlim:k'<=268435456:=h1;have hrun:=run_make (P:=F.P) w t el ti z hu hti hzv kn kc k' k' h0 (Int.le_refl _) (by
    have:(ti.bytes:Int)*k'<=65536*268435456:=Int.mul_le_mul (by omega) hlim h0 (by omega);omega) (by omega)
   have hw':(w.alloc (.cells (madeCells z.cells (k'.toNat*ti.size)) el))=World.push w (.cells (madeCells z.cells (k'.toNat*ti.size)) el (0,0)):=rfl;rw[hw']at hrun;obtain⟨g',hg⟩:=h.newRow (w':=World.push w (.cells (madeCells z.cells (k'.toNat*ti.size)) el (0,0))) (v:=.slice (some ⟨w.heap.size,0,none⟩) (rowsOf k'.toNat zs).length k'.toNat) (S0:=fun b=>b=w.heap.size) hd hev
    Still.push (fun b hb=>Dx hb)
    (oM (arr:=madeCells z.cells (k'.toNat*ti.size)) (E:=el) (.of I8) (by simp[rowsOf]) (by intro row hr;simp[rowsOf]at hr;rw[hr.2]) (by simp[madeCells,hsz]) (by
     intro i j x hx;obtain⟨hi,hj⟩:=Um hx;obtain⟨v,hv',hs⟩:=hzc j x hj;refine⟨v,?_,hs⟩;have:=O1 (n:=k'.toNat) hv' hi;rw[hzsz]at this;rw[hsz,Ai];exact this))
    (fun b hb=>.inl (by omega))
   refine⟨_,_,g',hrun,?_,fun b hb=>Dx hb⟩;simpa[rowsOf] using hg
  .cases hev
 .cases hev
theorem Z6{s:List UInt8}{i j:Nat}{x:T}(h:at2 (HV s) i j=some x):∃b,s[i]?=some b/\j=0/\x=.int .u8 b.toNat:=by
 grind[at2,HV]
theorem gK(h:Inv F S g a w){d:Nat}{s t:TypeId}{o:Operand}{x:Opd}(hd:d<F.N)(hev:ev (.Je d x) S=some S')(ho:Bh o x=true)(hm:∀p∈Bk o x,Mt F.A F.P p.1 p.2)(hs:isStr F.P s=true)(ht:MY F.P t=true) :
 ∃v w' g',(convert s t (a.eval o)).run F.P w=.ok v w'/\Inv F S' g' (a.put (some d) v) w'/\∀b,b<w.heap.size->w'.heap[b]?=w.heap[b]?:=by
 simp only[ev]at hev;split at hev
 .rename_i str hstr;have hv:a.eval o=.string ⟨str.toArray⟩:=L7 h hstr ho hm;unfold isStr at hs;split at hs
  .rename_i hus;unfold MY at ht;split at ht
   .rename_i el hut;simp only[AD]at ht;obtain⟨hie,_⟩:=ht;unfold isInt at hie;split at hie
    .rename_i k hue;simp only[decide_eq_true_eq]at hie;subst hie;have hrun:=Lib.run_convert_string_bytes (P:=F.P) w s t el ⟨str.toArray⟩ hus hut hue;have hsz:(⟨str.toArray⟩:ByteArray).size=str.length:=by simp[ByteArray.size]
     have hge:=grownCap_ge w (⟨str.toArray⟩:ByteArray).size 0 el;have hasz:(Lib.bytesCells w el ⟨str.toArray⟩).size=grownCap w (⟨str.toArray⟩:ByteArray).size 0 el:=by
      simp only[Lib.bytesCells,Array.size_append,IA,Array.size_replicate];rw[show (⟨str.toArray⟩:ByteArray).data.size=(⟨str.toArray⟩:ByteArray).size from rfl];generalize (⟨str.toArray⟩:ByteArray).size=n at *;omega
     obtain⟨g',hg⟩:=h.newRow (w':=Lib.bytesWorld w el ⟨str.toArray⟩) (v:=.slice (some ⟨w.heap.size,0,none⟩) (HV str).length (grownCap w (⟨str.toArray⟩:ByteArray).size 0 el)) (S0:=fun b=>b=w.heap.size) hd hev
      (.old (by rw[Lib.bytesWorld_size];omega) rfl rfl (fun b hb=>Lib.bytesWorld_at_old w el _ b hb)) (fun b hb=>Lib.bytesWorld_at_old w el _ b hb)
      (oM (e:=1) (arr:=Lib.bytesCells w el ⟨str.toArray⟩) (E:=el) ⟨_,Lib.bytesWorld_at_new w el ⟨str.toArray⟩,.inr ⟨AT _,rfl⟩⟩ (by simp[HV];omega)
       (by intro row hr;simp only[HV,DC]at hr;obtain⟨_,_,rfl⟩:=hr;rfl) (by omega) (by
        intro i j x hx;obtain⟨b,hb,rfl,rfl⟩:=Z6 hx;refine⟨.int .u8 b.toNat,?_,.sc rfl rfl (by simp)⟩;have hlt:i<str.length:=(AJ.1 hb).1;simp only[Ai,Nat.mul_one,CO,Lib.bytesCells];rw[Array.getElem?_append_left (by simpa using hlt)];simp[hb]))
      (fun b hb=>.inl (by omega))
     refine⟨_,_,g',by rw[hv];exact hrun,?_,fun b hb=>Lib.bytesWorld_at_old w el _ b hb⟩;have:(HV str).length=(⟨str.toArray⟩:ByteArray).size:=by simp[HV,hsz]
     rw[this]at hg;exact hg
    .cases hie
   .cases ht
  .cases hs
 .cases hev
end
end Lv
