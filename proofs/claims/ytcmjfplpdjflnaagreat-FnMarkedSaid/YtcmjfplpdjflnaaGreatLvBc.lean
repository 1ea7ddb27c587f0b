/- The light machine is right about the program's code. -/
import Derived.Test.YtcmjfplpdjflnaaGreatLvAc
import Derived.WalkKit
import Derived.Laws.Concat
import Derived.Laws.StructEq
import Derived.Lib.SliceRun
import Derived.Laws.Cover3
import Derived.Laws.Tables
import Derived.Laws.MakeOwn
import Derived.Lib.ConvBytes
import Derived.Laws.BytesString
set_option linter.unusedVariables false
set_option linter.unusedSimpArgs false
set_option linter.unusedSectionVars false
open Array renaming getElem?_eq_some_iff->A1,length_toList->Bf,size_map->K5,toArray_toList->Ib
open Bool renaming and_eq_true->AF,not_eq_true->El,not_eq_true'->BG,or_eq_true->Cj
open List renaming drop_drop->DG,extract_eq_drop_take'->Gq,flatMap_cons->Ca,getElem?_cons_succ->CA,getElem?_cons_zero->AM,getElem?_drop->Bq,getElem?_eq_some_iff->AP,getElem?_map->A2,getElem?_of_mem->Bh,getElem?_take->B4,getElem?_toArray->BS,headD_cons->EH,length_nil->AN,mem_cons->Ag,mem_cons_of_mem->Ax,mem_map->D2,mem_of_getElem?->Ap,mem_of_mem_drop->C8,mem_of_mem_take->GB,size_toArray->A3,take_succ_cons->Ix
open Nat renaming add_assoc->CT,add_mul->BX,add_zero->C3,le_refl->Ad,mul_le_mul_right->Aj,one_mul->DY,zero_add->Au,zero_le->FQ
open Option renaming isSome_iff_exists->Bj,map_eq_some_iff->AO,map_some->Ar
open Option.some renaming injEq->AD
open Go.Result renaming andThen_ok->DZ
open Go.Sem renaming run_bind->Ak
namespace Lv
open Go
def Kg:Value->Option Nat|.pointer (some a)=>some a.block|.slice (some a) _ _=>some a.block|_=>none
def AMk(v:Value)(w w1:World):Prop:=∀b,Kg v=some b->w1.heap[b]?=w.heap[b]?
def Rd(F:Fix)(S:St)(g:Gh)(w:World)(e:Ent)(v:Value):Prop:=
 ∃vs,v=mkV e.sh vs/\vs.length=e.cs.length/\(∀x,AT.ow x∉e.cs)/\∀(c:Nat) (l:AT),e.cs[c]?=some l->∃u,vs[c]?=some u/\Bt F S g w (fun _=>False) l u
section
variable{F:Fix}{S S':St}{g g':Gh}{a a':Act}{w w':World}
theorem Vm(s:Nat)(cs:List AT)(o c:Nat):(R9 s o cs)[c]?=(cs[c]?).map (AT.ali s (o+c)):=by
 induction cs generalizing o c with
 |nil=>simp[R9]|cons l ls e=>
  grind[R9,List.getElem?_cons_succ]
theorem yC(s:Nat)(cs:List AT)(o:Nat):(R9 s o cs).length=cs.length:=by
 induction cs generalizing o with
 |nil=>rfl|cons l ls c=>simp[R9,c]
theorem AMr{s c:Nat}{l:AT}{x:T}:l.ali s c≠.ow x:=by cases l<;>simp[AT.ali]
theorem AUv{a b:T}(h:AUu a b=true):a=b:=by
 cases a<;>cases b<;>simp_all[AUu]
theorem Vy{v:Value}{x:T}(h:Qi v x=true):Sc x v:=by
 unfold Qi at h;split at h
 .rename_i y c;have:=AUv h;subst this;unfold tOf at c;split at c<;>simp at c<;>subst c<;>simp[Sc]
 .cases h
theorem AMq{r:CD}{l:AT}{v:Value}{s c:Nat}(j:r=.tmp s c)(q:S.at r=some l)(y:g.rv r=some v)(h:Bt F S g w (g.fp r) l v) :
 Bt F S g w (fun _=>False) (l.ali s c) v:=by
 subst j;by_cases e:∃x,l=.ow x
 .obtain⟨x,rfl⟩:=e;exact⟨x,v,q,y,rfl⟩
 .have:l.ali s c=l:=by cases l<;>first|rfl|exact(e ⟨_,rfl⟩).elim
  grind[Bt.any]
theorem OA(h:Inv F S g a w){o:Operand}{x:Opd}{e:Ent}(j:S.rd x=some e)(q:B9 o x=true)(Z:∀p∈CF o x,Mt F.A F.P p.1 p.2):Rd F S g w e (a.eval o):=by
 match o,x,q with
 |.tmp t,.tmp t',q=>
  simp only[B9,beq_iff_eq]at q;subst q;simp only[St.rd]at j;split at j
  .rename_i O E;cases j;obtain⟨_,X,Y⟩:=h.tms t O E;refine⟨g.tv t,X,by simp[yC,Y],?_,?_⟩
   .intro x hx;obtain⟨c,I⟩:=Bh hx;rw[Vm,AO]at I;obtain⟨l,_,y⟩:=I;exact AMr y
   .intro c l y;rw[Vm,AO]at y;obtain⟨l0,G,rfl⟩:=y;have B:S.at (.tmp t c)=some l0:=by simp[St.at,E,G]
    obtain⟨v,L,H⟩:=h.Cq _ _ B;exact⟨v,L,by simpa using AMq rfl B L H⟩
  .cases j
 |.const v,.k x,q=>
  simp only[St.rd,AD]at j;subst j;refine⟨[v],rfl,rfl,by cases x<;>simp[qN],?_⟩;intro c l y;cases c with
  |zero=>
   simp only[AM,AD]at y;subst y;refine⟨v,rfl,?_⟩;simp only[B9,Cj]at q;rcases q with q|q
   .have J:=Vy q;cases x<;>first|exact J|exact J.elim
   .unfold AJI at q;split at q
    .exact View.nl
    .cases q
  |succ c=>simp at y
 |.func f,.fn Q,q=>
  simp only[St.rd,AD]at j;subst j;refine⟨[.func (.func f) #[] #[]],rfl,rfl,by simp,?_⟩;intro c l y;cases c with
  |zero=>
   simp only[AM,AD]at y;subst y;exact⟨_,rfl,f,#[],rfl,Z (f,Q) (by simp[CF]),rfl,by simp⟩
  |succ c=>simp at y
theorem Rd.cells{e:Ent}{v:Value}(h:Rd F S g w e v):∃vs,v=mkV e.sh vs/\Cells F S g w e.cs vs fun _ _=>False:=by
 obtain⟨vs,c,j,q,y⟩:=h;exact⟨vs,c,Cells.free j y q⟩
theorem Cells.one{l:AT}{v:Value}(c:∀x,l≠.ow x)(h:Bt F S g w (fun _=>False) l v):Cells F S g w [l] [v] fun _ _=>False:=by
 grind[Cells.free,List.getElem?_cons_zero,Option.some.injEq,List.mem_singleton]
theorem Ku(h:Inv F S g a w){d:Nat}{x:T}{v:Value}(c:d<F.N)(e:S.D9 d ⟨.one,[.t x]⟩=some S')(j:Sc x v):∃g',Inv F S' g' (a.put (some d) v) w:=
 h.D9 (vs:=[v]) e c (Cells.one (by simp) j)
theorem QM(h:Inv F S g a w){d:Nat}{l:AT}{v:Value}(c:d<F.N)(j:S.D9 d ⟨.one,[l]⟩=some S')(e:∀x,l≠.ow x)(q:Bt F S g w (fun _=>False) l v):∃g',Inv F S' g' (a.put (some d) v) w:=
 h.D9 (vs:=[v]) j c (Cells.one e q)
theorem QP(h:Inv F S g a w){o:Operand}{x:Opd}{t:T}(c:S.sc x=some t)(I:B9 o x=true)(H:∀p∈CF o x,Mt F.A F.P p.1 p.2):Sc t (a.eval o):=by
 unfold St.sc at c;cases j:S.rd x with
 |none=>simp[j,AF3]at c|some e=>
  obtain⟨vs,E,J,L,G⟩:=OA h j I H;rw[j]at c;unfold AF3 at c;split at c
  .rename_i O q;simp only[AD]at q c;subst q c;obtain⟨u,B,y⟩:=G 0 _ rfl;rw[E];cases vs with|nil=>simp at B|cons v vs=>simp only[AM,AD]at B;subst B;exact y
  .cases c
theorem TH(h:Inv F S g a w){o:Operand}{x:Opd}{n:Int}(c:S.nat x=some n)(q:B9 o x=true)(j:∀p∈CF o x,Mt F.A F.P p.1 p.2):∃k,a.eval o=.int k n:=by
 unfold St.nat at c;split at c
 .rename_i k y e;cases c;exact⟨k,QP h e q j⟩
 .cases c
theorem Hp(h:Inv F S g a w){o:Operand}{x:Opd}{l:AT}(c:S.one x=some l)(H:B9 o x=true)(G:∀p∈CF o x,Mt F.A F.P p.1 p.2) :
 Bt F S g w (fun _=>False) l (a.eval o)/\∀x,l≠.ow x:=by
 unfold St.one at c;split at c
 .rename_i l' e;cases c;obtain⟨vs,y,J,B,E⟩:=OA h e H G;obtain⟨u,q,j⟩:=E 0 _ rfl;refine⟨?_,fun x I=>B x (by simp[I])⟩;rw[y];cases vs with|nil=>simp at q|cons v vs=>simp only[AM,AD]at q;subst q;exact j
 .cases c
theorem AJL(h:Inv F S g a w){d:Nat}{o:Operand}{x:Opd}(y:d<F.N)(c:ev (.mv d x) S=some S')(G:B9 o x=true)(E:∀p∈CF o x,Mt F.A F.P p.1 p.2) :
 ∃g',Inv F S' g' (a.put (some d) (a.eval o)) w:=by
 simp only[ev]at c;split at c
 .rename_i e B;obtain⟨vs,j,q⟩:=(OA h B G E).cells;rw[j];exact h.D9 c y q
 .cases c
theorem YN(h:Inv F S g a w){e:Ent}{v:Value}(G:Rd F S g w e v){cs:List AT}(c:LM S e.cs=some (S',cs)) :
 ∃vs nf,v=mkV e.sh vs/\Inv F S' g a w/\Cells F S' g w cs vs nf/\cs.length=e.cs.length:=by
 obtain⟨vs,y,q,B,E⟩:=G;unfold LM at c;split at c
 .rename_i j;obtain⟨t1,_,nf,t2,_⟩:=ATn h B q E j c;exact⟨vs,nf,y,t1.inv,t2,t2.1.symm.trans q⟩
 .cases c
theorem AWk(h:Inv F S g a w){e:Ent}{v:Value}(j:Rd F S g w e v){x:Opd}{cs:List AT}(c:sG S x e.cs=some (S',cs)) :
 ∃vs nf,v=mkV e.sh vs/\Inv F S' g a w/\Cells F S' g w cs vs nf/\cs.length=e.cs.length:=by
 unfold sG at c;split at c
 .split at c
  .cases c;obtain⟨vs,q,y⟩:=j.cells
   grind
  .exact YN h j c
 .exact YN h j c
theorem ARs(h:Inv F S g a w){d:Nat}{o:Operand}{x:Opd}(y:d<F.N)(c:ev (.as d x) S=some S')(G:B9 o x=true)(E:∀p∈CF o x,Mt F.A F.P p.1 p.2) :
 ∃g',Inv F S' g' (a.put (some d) (a.eval o)) w:=by
 simp only[ev]at c;split at c
 .rename_i e B;split at c
  .rename_i S1 cs H;obtain⟨vs,nf,j,hi,q,_⟩:=YN h (OA h B G E) H;rw[j];exact hi.D9 (e:=⟨e.sh,cs⟩) c y q
  .cases c
 .cases c
theorem wV(h:Inv F S g a w){d:Nat}{oc oa ob:Operand}{c x y:Opd}(Q:d<F.N)(e:ev (.pick d c x y) S=some S')(L:B9 oc c=true)(I:B9 oa x=true)(J:B9 ob y=true)
 (H:∀p∈CF oc c,Mt F.A F.P p.1 p.2) (E:∀p∈CF oa x,Mt F.A F.P p.1 p.2) (G:∀p∈CF ob y,Mt F.A F.P p.1 p.2) :
 ∃t g',a.eval oc=.bool t/\Inv F S' g' (a.put (some d) (if t then a.eval oa else a.eval ob)) w:=by
 simp only[ev]at e;split at e
 .rename_i t ea eb Y q B;refine⟨t,?_⟩;have Z:a.eval oc=.bool t:=QP h Y L H;cases t with
  |true=>
   obtain⟨vs,O,j⟩:=(OA h q I E).cells;obtain⟨g',X⟩:=h.D9 (by simpa using e) Q j
   grind
  |false=>
   obtain⟨vs,O,j⟩:=(OA h B J G).cells;obtain⟨g',X⟩:=h.D9 (by simpa using e) Q j;exact⟨g',Z,by simpa[O] using X⟩
 .cases e
theorem AB6(h:Inv F S g a w){fp:Blk}{l:AT}{v:Value}(q:Bt F S g w fp l v)(L:l≠.t .top)(O:l≠.und):v.oneCell'=true:=by
 match l,q with
 |.t x,q=>exact Sc.one q (by cases x<;>first|rfl|exact(L rfl).elim)
 |.und,_=>exact(O rfl).elim|.ow x,q=>exact Own.one q|.al r sub,⟨x,u,y,H,I⟩=>
  obtain⟨X,B,G⟩:=h.Cq r _ y;rw[H]at B;cases B;obtain⟨_,_,E⟩:=RD G I;exact E.one
 |.ep r i j,⟨e,xs,blk,off,len,cap,y,H,I,Q⟩=>subst Q;rfl|.vw (.own r _) e xs,⟨_,⟨S0,_,E⟩,_⟩=>exact E.one|.vw (.old k) e xs,q=>cases q with|sc h=>exact h.elim|sl=>rfl|nl=>rfl
 |.vp (.own r _) cs,⟨_,a,c,f,y,_⟩=>subst y;rfl|.vp (.old k) cs,⟨a,c,y,_⟩=>subst y;rfl|.bp id off,q=>have J:v=_:=q;subst J;rfl|.fn f caps,⟨n,cv,y,_⟩=>subst y;rfl
end
section
variable{P:Program}{w:World}
theorem xF{t:TypeId}{i:TypeInfo}{v:Value}(hi:P.info? t=some i)(c:i.zero=some v) :
 (Instr.alloc t true (.tuple #[])).run P w=.ok (.pointer (some ⟨w.heap.size,0,none⟩)) (World.push w (.cells v.cells t (0,0))):=by
 simp[Instr.alloc,zeroValue,typeInfo,hi,c,newVar,newRow,go_sem];rfl
theorem AFu{t:TypeId}{v:Value}:(Instr.box t v).run P w=.ok (.pointer (some ⟨w.heap.size,0,none⟩)) (World.push w (.cells v.cells t (0,0))):=by
 simp[Instr.box,newVar,newRow,go_sem];rfl
theorem G9{t:TypeId}{i:TypeInfo}(hi:P.info? t=some i):(Go.sizeOf t).run P w=.ok i.size w:=by
 simp[Go.sizeOf,typeInfo,hi,go_sem]
theorem xK{t:TypeId}{b o:Nat}{d:TypeDesc}{v:Value}(h:P.underlying t=some d)(q:∀fs,d≠.struct fs)(c:∀n e,d≠.array n e)(j:w.cell? ⟨b,o,none⟩=some v) :
 (Instr.loadAt t (.pointer (some ⟨b,o,none⟩))).run P w=.ok v w:=by
 simp[Instr.loadAt,Instr.sureAddr,loadVar,isAgg,run_underlying h,go_sem];cases d<;>simp_all[go_sem]
theorem xJ{t:TypeId}{b o:Nat}{fs:Array Field}{i:TypeInfo}{vs:List Value}(y:P.underlying t=some (.struct fs))(hi:P.info? t=some i)(q:vs.length=i.size)
 (c:∀(j:Nat) v,vs[j]?=some v->w.cell? ⟨b,o+j,none⟩=some v) :
 (Instr.loadAt t (.pointer (some ⟨b,o,none⟩))).run P w=.ok (.agg vs.toArray) w:=by
 have h:=run_loadCells_list (P:=P) (w:=w) ⟨b,o,none⟩ vs (by
  intro j v e;have:=c j v e;unfold Addr.add;split
  .subst_vars;simpa using this
  .exact this)
 simp[Instr.loadAt,Instr.sureAddr,loadVar,isAgg,run_underlying y,G9 hi,<-q,go_sem];unfold loadCells at h;simp[h,go_sem]
theorem Xy{t:TypeId}{b o:Nat}{i:TypeInfo}{v:Value}{cur:Array Value}{E:TypeId}{e:Nat}(hi:P.info? t=some i)(B:v.cells.size=i.size)(y:FM w b cur E e)
 (j:o+v.cells.size<=cur.size) (q:∀c∈v.cells.toList,c.oneCell'=true) :
 (Instr.storeAt t (.pointer (some ⟨b,o,none⟩)) v).run P w=.ok () (w.setRow b (cur.toList.take o++v.cells.toList++cur.toList.drop (o+v.cells.size)).toArray):=by
 have h:=FX (P:=P) (o:=o) (vs:=v.cells.toList) y (by simpa using j) q;simp only[Bf]at h;unfold Instr.storeAt storeVar;generalize v.cells=cs at *;simp[Instr.sureAddr,G9 hi,B,h,go_sem]
theorem Gz(b o n:Nat):(⟨b,o,none⟩:Addr).add n=⟨b,o+n,none⟩:=by
 grind[Addr.add]
theorem mI{t:TypeId}{b o f:Nat}{fs:Array Field}{x:Field}{i:TypeInfo}(e:P.underlying t=some (.struct fs))(c:fs[f]?=some x)(hi:P.info? x.type=some i)(h:0<i.size) :
 (Instr.fieldAt t (.pointer (some ⟨b,o,none⟩)) f).run P w=.ok (.pointer (some ⟨b,o+x.offset,none⟩)) w:=by
 have:i.size≠0:=by omega
 simp[Instr.fieldAt,Instr.sureAddr,fieldPlace,run_underlying e,c,G9 hi,this,Gz,go_sem]
theorem mJ{t el:TypeId}{b o len cap:Nat}{k:IntKind}{n:Int}{i:TypeInfo}(h:P.underlying t=some (.slice el))(hi:P.info? el=some i)(c:0<=n)(e:n<len) :
 (Instr.indexAt t (.slice (some ⟨b,o,none⟩) len cap) (.int k n)).run P w=.ok (.pointer (some ⟨b,o+n.toNat*i.size,none⟩)) w:=by
 simp[Instr.indexAt,asIntOf,run_underlying h,G9 hi,c,e,Gz,go_sem]
theorem xI{t:TypeId}{s:List UInt8}{k:IntKind}{n:Int}(h:P.underlying t=some .string)(e:0<=n)(j:n<s.length) :
 (Instr.index t (.string ⟨s.toArray⟩) (.int k n)).run P w=.ok (.int .u8 (s.getD n.toNat 0).toNat) w:=by
 have c:n.toNat<s.length:=by omega
 have:(⟨s.toArray⟩:ByteArray)[n.toNat]?=some s[n.toNat]:=by
  grind[ByteArray.size,ByteArray.getElem_eq_getElem_data]
 simp[Instr.index,asIntOf,run_underlying h,e,List.getD,c,go_sem];rfl
end
section
variable{F:Fix}{S S':St}{g g':Gh}{a a':Act}{w w':World}
theorem ADd{vs:List Value}{e:List T}(h:Te vs e=true):vs.length=e.length/\∀(c:Nat) x,e[c]?=some x->∃v,vs[c]?=some v/\Sc x v:=by
 induction vs generalizing e with
 |nil=>cases e<;>simp_all[Te]
 |cons v vs j=>
  cases e with
  |nil=>simp[Te]at h|cons z e=>
   grind[Te,List.getElem?_cons_zero,Option.some.injEq,Vy]
theorem zeroCells{t:TypeId}{e:List T}(h:Z7 F.P t e=true):∃i v,F.P.info? t=some i/\i.zero=some v/\i.size=e.length/\v.cells.toList.length=e.length /\
 Cells F S g w (e.map .t) v.cells.toList fun _ _=>False:=by
 unfold Z7 at h;split at h
 .rename_i i hi;simp only[AF,beq_iff_eq]at h;obtain⟨j,B⟩:=h;split at j
  .rename_i v I;obtain⟨q,E⟩:=ADd j;refine⟨i,v,hi,I,B,q,Cells.free (by simpa using q) ?_ (by simp)⟩;intro c l y;rw[A2,AO]at y;obtain⟨x,J,rfl⟩:=y;obtain⟨u,H,G⟩:=E c x J;exact⟨u,H,G⟩
  .cases j
 .cases h
theorem AU9(q:AT->Bool)(e:∀x,q (.t x)=false)(c:List T):ES q (c.map .t)=c.map .t:=by
 induction c with
 |nil=>rfl|cons z c h=>simp[ES,e,h]
theorem lS(h:Inv F S g a w){d:Nat}{t:TypeId}{j:List T}(B:d<F.N)(c:ev (.alloc d j) S=some S')(H:Z7 F.P t j=true) :
 ∃v w' g',(Instr.alloc t true (.tuple #[])).run F.P w=.ok v w'/\Inv F S' g' (a.put (some d) v) w'/\∀b,b<w.heap.size->w'.heap[b]?=w.heap[b]?:=by
 simp only[ev]at c;split at c
 .cases c
 .rename_i E;cases c;obtain⟨i,v,hi,G,_,_,y⟩:=zeroCells (F:=F) (S:=S) (g:=g) (w:=w) H;obtain⟨g',e⟩:=h.ARi B E y t;rw[AU9 _ (fun _=>rfl)]at e;refine⟨_,_,g',xF hi G,?_,fun b q=>E9 q⟩;rw[Ib]at e;exact e
theorem mO(h:Inv F S g a w){e:Ent}{cs:List AT}{vs:List Value}{nf:Nat->Blk}(J:Cells F S g w cs vs nf)(Q:cs.length=e.cs.length)(q:GJ e.sh e.cs.length=true)(H:H4 cs=false) :
 (mkV e.sh vs).cells.toList=vs/\∀v∈vs,v.oneCell'=true:=by
 have j:∀v∈vs,v.oneCell'=true:=by
  intro v X;obtain⟨c,B⟩:=Bh X;have E:c<cs.length:=by
   have:=(AP.1 B).1;rw[J.1]at this;exact this
  obtain⟨v',I,L⟩:=J.2.1 c cs[c] (by simp[E]);rw[B]at I;cases I;have G:∀(ls:List AT),H4 ls=false->∀l∈ls,l≠.t .top/\l≠.und:=by
   intro ls
   induction ls with
   |nil=>simp|cons x ls Y=>
    intro H l O;cases Ag.1 O with
    |inl e=>subst e;constructor<;>(rintro rfl;simp[H4]at H)
    |inr e=>exact Y (by unfold H4 at H;split at H<;>simp_all) l e
  obtain⟨Z,k2⟩:=G cs H _ (List.getElem_mem E);exact AB6 h L Z k2
 refine⟨?_,j⟩;cases y:e.sh with
 |one=>
  rw[y]at q;simp only[GJ,beq_iff_eq]at q;have:vs.length=1:=by rw[J.1,Q,q]
  match vs,this,j with
  | [v],_,j=>
   have:=j v (by simp);simp only[mkV,EH];cases v<;>first|rfl|(simp[Value.oneCell']at this)
 |agg=>simp[mkV,Value.cells]|tup ns=>rw[y]at q;simp[GJ]at q|ptr k=>rw[y]at q;simp[GJ]at q|vw k=>rw[y]at q;simp[GJ]at q
theorem AFZ(h:Inv F S g a w){d:Nat}{t:TypeId}{o:Operand}{x:Opd}(I:d<F.N)(c:ev (.box d x) S=some S')(Q:B9 o x=true)(O:∀p∈CF o x,Mt F.A F.P p.1 p.2) :
 ∃v w' g',(Instr.box t (a.eval o)).run F.P w=.ok v w'/\Inv F S' g' (a.put (some d) v) w'/\∀b,b<w.heap.size->w'.heap[b]?=w.heap[b]?:=by
 simp only[ev]at c;split at c
 .rename_i e J;split at c
  .rename_i S1 cs Y;split at c
   .cases c
   .rename_i hcond;simp only[not_or,El,Bool.not_eq_false]at hcond;obtain⟨X,q,B⟩:=hcond;cases c;obtain⟨vs,nf,G,hi,E,j⟩:=AWk h (OA h J Q O) Y;obtain⟨g',L⟩:=hi.ARi I X E t;refine⟨_,_,g',AFu,?_,fun b H=>E9 H⟩;have y:=(mO hi E j B q).1;have:(a.eval o).cells=vs.toArray:=by rw[G,<-Ib (xs:=(mkV e.sh vs).cells),y]
    rw[this];exact L
  .cases c
 .cases c
def AJy(b c:Nat):AT->AT|.ow _=>.al (.cell b c) none|l=>l
theorem YZ(b o:Nat)(l:AT)(ls:List AT):Qc b o (l::ls)=AJy b o l::Qc b (o+1) ls:=by cases l<;>rfl
theorem yA(b:Nat)(cs:List AT)(o c:Nat):(Qc b o cs)[c]?=(cs[c]?).map (AJy b (o+c)):=by
 induction cs generalizing o c with
 |nil=>simp[Qc]|cons l ls e=>
  grind[YZ,List.getElem?_cons_succ]
theorem AUH{b c:Nat}{l:AT}{x:T}:AJy b c l≠.ow x:=by cases l<;>simp[AJy]
theorem VY{n m c:Nat}(h:(List.range n)[m]?=some c):m<n/\m=c:=by
 grind[List.getElem?_eq_some_iff]
theorem yB(b:Nat)(cs:List AT)(o:Nat):(Qc b o cs).length=cs.length:=by
 induction cs generalizing o with
 |nil=>rfl|cons l ls c=>rw[YZ];simp[c]
theorem kz(r:CD)(i:Nat)(xs:List T)(j m:Nat):(Je r i j xs)[m]?=(xs[m]?).map (Kq (.own r (some (i,j+m)))):=by
 induction xs generalizing j m with
 |nil=>simp[Je]|cons x xs c=>
  grind[Je,List.getElem?_cons_succ]
theorem lA(r:CD)(i:Nat)(xs:List T)(j:Nat):(Je r i j xs).length=xs.length:=by
 induction xs generalizing j with
 |nil=>rfl|cons x xs c=>simp[Je,c]
theorem Q6(h:Inv F S g a w){p:AT}{v:Value}(hp:Bt F S g w (fun _=>False) p v){n:Nat}{ls:List AT}(H:S.load n p=some ls) :
 ∃b o vs,v=.pointer (some ⟨b,o,none⟩)/\vs.length=n/\ls.length=n/\(∀(j:Nat) u,vs[j]?=some u->w.cell? ⟨b,o+j,none⟩=some u)/\Cells F S g w ls vs fun _ _=>False:=by
 match p,hp with
 |.bp id off,hp=>
  have hp':v=.pointer (some ⟨g.β id,off,none⟩):=hp;subst hp';simp only[St.load]at H;split at H
  .rename_i ls0 Q;split at H
   .rename_i hle;cases H;obtain⟨⟨E,hE⟩,hlen⟩:=h.bxs id ls0 Q;have hgv:∀j u,(((g.bv id).drop off).take n)[j]?=some u->j<n/\(g.bv id)[off+j]?=some u:=by
     intro j u J;rw[B4]at J;split at J
     .rename_i hj;exact⟨hj,by rwa[Bq]at J⟩
     .cases J
    refine⟨g.β id,off,((g.bv id).drop off).take n,rfl,by simp;omega,by simp[yB];omega,?_,Cells.free (by simp[yB];omega) ?_ ?_⟩
    .intro j u J;obtain⟨_,J⟩:=hgv j u J;simp only[World.cell?,hE];simpa using J
    .intro c l hlc;rw[yA,AO]at hlc;obtain⟨l0,I,rfl⟩:=hlc;rw[B4]at I;split at I
     .rename_i hc;rw[Bq]at I;have O:S.at (.cell id (off+c))=some l0:=by simp[St.at,Q,I]
      obtain⟨u,J,hok⟩:=h.Cq _ _ O;refine⟨u,by rw[B4,AX hc,Bq];exact J,?_⟩;by_cases Z:∃x,l0=.ow x
      .obtain⟨x,rfl⟩:=Z;exact⟨x,u,O,J,rfl⟩
      .have:AJy id (off+c) l0=l0:=by cases l0<;>first|rfl|exact(Z ⟨_,rfl⟩).elim
       rw[this];exact Bt.any (fun x q=>Z ⟨x,q⟩) hok
     .cases I
    .intro x q;obtain⟨c,hc⟩:=Bh q;rw[yA,AO]at hc;obtain⟨l0,_,I⟩:=hc;exact AUH I
   .cases H
  .cases H
 |.ep r i j,⟨e,xs,blk,off,len,cap,h1,h2,h3,h4⟩=>
  subst h4;simp only[St.load,h1]at H;split at H
  .rename_i row X;split at H
   .rename_i hle;cases H;obtain⟨u,J,hown⟩:=h.Cq r _ h1;rw[h2]at J;cases J;cases hown with
    |sc Y _ _=>exact Y.elim|sl c f k1 k2 k3 k4 k5 k6 k7 k8 k9 k10=>
     rename_i arr E;have O:∀(m:Nat) x,((row.drop j).take n)[m]?=some x->m<n/\at2 xs i (j+m)=some x:=by
      intro m x q;rw[B4]at q;split at q
      .rename_i B;rw[Bq]at q;exact⟨B,by simp[at2,X,q]⟩
      .cases q
     refine⟨blk,off+i*e+j,(List.range n).map fun m=>c i (j+m),rfl,by simp,by simp[lA];omega,?_,Cells.free (by simp[lA];omega) ?_ ?_⟩
     .intro m u B;rw[A2,AO]at B;obtain⟨m',L,rfl⟩:=B;obtain⟨G,rfl⟩:=VY L;have q:∃x,at2 xs i (j+m)=some x:=by
       have:j+m<row.length:=by omega
       exact⟨row[j+m],by simp[at2,X,this]⟩
      obtain⟨x,q⟩:=q;have:=k6 i (j+m) x q;rw[k4.cell,<-this];congr 1;omega
     .intro m l B;rw[kz,AO]at B;obtain⟨x,q,rfl⟩:=B;obtain⟨G,q⟩:=O m x q;refine⟨c i (j+m),by simp[G],?_⟩;have hO:=k7 i (j+m) x q;cases x with
      |sl e' ys=>
       refine⟨⟨_,h1⟩,⟨f i (j+m),fun b hb=>(k10 b).2 (.inr ⟨i,j+m,_,q,hb⟩),hO⟩,e,xs,blk,off,len,cap,h1,h2,q,(k10 blk).2 (.inl rfl),?_⟩;rw[k4.cell];exact k6 i (j+m) _ q
      |mp ks=>trivial|_=>cases hO with|sc Y _ _=>exact Y
     .intro x q;obtain⟨m,B⟩:=Bh q;rw[kz,AO]at B;obtain⟨y,_,hy⟩:=B;cases y<;>simp[Kq]at hy
   .cases H
  .cases H
 |.vp s cs,hp=>
  simp only[St.load]at H;split at H
  .rename_i hle;cases H;have hno:∀x,AT.ow x∉(cs.take n).map (Kq s.up):=by
    intro x q;simp only[D2]at q;obtain⟨y,_,hy⟩:=q;cases y<;>simp[Kq]at hy
   cases s with
   |own r=>
    obtain⟨hal,ad,c,f,q1,q2,q3⟩:=hp;subst q1;obtain⟨b,o,sp⟩:=ad;simp only at q2;subst q2;refine⟨b,o,(List.range n).map c,rfl,by simp,by simp;omega,?_,Cells.free (by simp;omega) ?_ hno⟩
    .intro m u B;rw[A2,AO]at B;obtain⟨m',L,rfl⟩:=B;obtain⟨G,rfl⟩:=VY L;exact(q3 m cs[m] (by simp[show m<cs.length from by omega])).2.1
    .intro m l B;rw[A2,AO]at B;obtain⟨x,q,rfl⟩:=B;rw[B4]at q;split at q
     .rename_i G;obtain⟨p1,p2,p3,p4⟩:=q3 m x q;refine⟨c m,by simp[G],?_⟩;cases x with
      |sl e' ys=>exact⟨hal,⟨f m,p3,p4⟩,trivial⟩|mp ks=>trivial|_=>cases p4 with|sc Y _ _=>exact Y
     .cases q
   |old k=>
    obtain⟨ad,c,q1,q2,q3⟩:=hp;subst q1;obtain⟨b,o,sp⟩:=ad;simp only at q2;subst q2;refine⟨b,o,(List.range n).map c,rfl,by simp,by simp;omega,?_,Cells.free (by simp;omega) ?_ hno⟩
    .intro m u B;rw[A2,AO]at B;obtain⟨m',L,rfl⟩:=B;obtain⟨G,rfl⟩:=VY L;exact(q3 m cs[m] (by simp[show m<cs.length from by omega])).2.1
    .intro m l B;rw[A2,AO]at B;obtain⟨x,q,rfl⟩:=B;rw[B4]at q;split at q
     .rename_i G;obtain⟨p1,p2,p3⟩:=q3 m x q;refine⟨c m,by simp[G],?_⟩;cases x with
      |sl e' ys=>exact p3|mp ks=>trivial|_=>cases p3 with|sc Y=>exact Y
     .cases q
  .cases H
theorem ARw(h:Inv F S g a w){d:Nat}{t:TypeId}{n:Option Nat}{o:Operand}{x:Opd}(O:d<F.N)(c:ev (.ld d n x) S=some S')(y:JL F.P t n=true)(X:B9 o x=true)(Q:∀p∈CF o x,Mt F.A F.P p.1 p.2) :
 ∃v g',(∀w1,AMk (a.eval o) w w1->(Instr.loadAt t (a.eval o)).run F.P w1=.ok v w1)/\Inv F S' g' (a.put (some d) v) w:=by
 simp only[ev]at c;split at c
 .rename_i p Y;split at c
  .rename_i ls H;obtain⟨b,o',vs,Z,J,h2,B,L⟩:=Q6 h (Hp h Y X Q).1 H;rw[Z];have B:∀w1,AMk (.pointer (some ⟨b,o',none⟩)) w w1->∀(j:Nat) u,vs[j]?=some u->w1.cell? ⟨b,o'+j,none⟩=some u:=fun w1 q j u E=>(LO (q b rfl)).trans (B j u E)
   unfold JL at y;split at y
   .rename_i dsc i E hi;cases n with
    |some k=>
     simp only[AF,beq_iff_eq]at y;obtain⟨I,hk⟩:=y;obtain⟨fs,rfl⟩:∃fs,dsc=.struct fs:=by cases dsc<;>simp[S9]at I;exact⟨_,rfl⟩
     obtain⟨g',G⟩:=h.D9 (e:=⟨.agg,ls⟩) (by simpa[shN] using c) O L;exact⟨_,g',fun w1 q=>xJ E hi (by simp[Dk]at J;omega) (B w1 q),by simpa[mkV] using G⟩
    |none=>
     simp only[AF,beq_iff_eq,BG]at y
     match vs,J with
     | [u],_=>
      obtain⟨g',G⟩:=h.D9 (e:=⟨.one,ls⟩) (by simpa[shN] using c) O L;refine⟨u,g',fun w1 q=>xK E ?_ ?_ (by simpa using B w1 q 0 u rfl),by simpa[mkV] using G⟩
      .rintro fs rfl;simp[PH]at y
      .rintro n e rfl;simp[PH]at y
   .cases y
  .cases c
 .cases c
theorem bj{xs:List (List T)}{i:Nat}{row':List T}(hi:i<xs.length)(c e:Nat):at2 (xs.set i row') c e=if c=i then row'[e]? else at2 xs c e:=by
 grind[at2]
theorem xe{e i j:Nat}{xs:List (List T)}{row:List T}{ts:List T}{vs:List Value}{nf:Nat->Blk}{blk off len cap:Nat}{arr:Array Value}{E:TypeId}{fp:Blk}
 {c:Nat->Nat->Value} {f:Nat->Nat->Blk} (k1:len=xs.length) (k2:len<=cap) (k3:∀row∈xs,row.length=e) (k4:FM w blk arr E e) (k5:off+cap*e<=arr.size)
 (k6:∀i j x,at2 xs i j=some x->arr[off+i*e+j]?=some (c i j)) (k7:∀i j x,at2 xs i j=some x->Own w x (c i j) (f i j)) (k8:∀i j x,at2 xs i j=some x->¬f i j blk)
 (k9:∀i j x y q x',at2 xs i j=some x->at2 xs y q=some x'->(i=y->j≠q)->∀b,f i j b->¬f y q b) (k10:∀b,fp b↔b=blk\/∃i j x,at2 xs i j=some x/\f i j b)
 (J:xs[i]?=some row) (hle:j+ts.length<=row.length) (hlen:vs.length=ts.length) (hown:∀(m:Nat) x,ts[m]?=some x->∃v,vs[m]?=some v/\Own w x v (nf m))
 (O:∀m b,m<ts.length->nf m b->¬fp b) (hnn:∀m m' b,m<ts.length->m'<ts.length->m≠m'->nf m b->¬nf m' b) :
 ∃fp':Blk,Own (w.setRow blk (arr.toList.take (off+i*e+j)++vs++arr.toList.drop (off+i*e+j+vs.length)).toArray) (.sl e (xs.set i (Dr row j ts))) (.slice (some ⟨blk,off,none⟩) len cap) fp' /\
  (∀b,fp' b->fp b\/∃m,m<ts.length/\nf m b):=by
 have hi:i<xs.length:=(AP.1 J).1;have hrl:row.length=e:=k3 row (Ap J);have hmul:(i+1)*e<=cap*e:=Aj _ (by omega);rw[BX,DY]at hmul;have Y:off+i*e+j+vs.length<=arr.size:=by omega
 have X:fp blk:=(k10 blk).2 (.inl rfl);have hset:∀m,(Dr row j ts)[m]?=if j<=m/\m<j+ts.length then ts[m-j]? else row[m]?:=fun m=>Gj row j ts hle m
 have I:∀y q x,at2 (xs.set i (Dr row j ts)) y q=some x->(y=i/\j<=q/\q<j+ts.length/\ts[q-j]?=some x)\/(¬(y=i/\j<=q/\q<j+ts.length)/\at2 xs y q=some x):=by
  intro y q x H;rw[bj hi]at H;by_cases B:y=i
  .subst B;rw[AX rfl,hset]at H;split at H
   .rename_i G;exact .inl ⟨rfl,G.1,G.2,H⟩
   .rename_i G;exact .inr ⟨fun h=>G h.2,by simp[at2,J,H]⟩
  .rw[AU B]at H;exact .inr ⟨fun h=>B h.1,H⟩
 have harr:∀k,(arr.toList.take (off+i*e+j)++vs++arr.toList.drop (off+i*e+j+vs.length)).toArray[k]?=if off+i*e+j<=k/\k<off+i*e+j+vs.length then vs[k-(off+i*e+j)]? else arr[k]?:=by
  intro k;have:=Gj arr.toList (off+i*e+j) vs (by simpa using Y) k;rw[Na _ _ _ (by simpa using Y)]at this;simpa using this
 let vv:Nat->Value:=fun m=>vs.getD m undef
 have hvv:∀(m:Nat) x,ts[m]?=some x->vs[m]?=some (vv m)/\Own w x (vv m) (nf m):=by
  intro m x H;obtain⟨v,hv,ho⟩:=hown m x H;have:vv m=v:=by simp[vv,List.getD,hv]
  rw[this];exact⟨hv,ho⟩
 let cc:Nat->Nat->Value:=fun y q=>if y=i/\j<=q/\q<j+ts.length then vv (q-j) else c y q
 let ff:Nat->Nat->Blk:=fun y q=>if y=i/\j<=q/\q<j+ts.length then nf (q-j) else f y q
 have cin:∀{y q},(y=i/\j<=q/\q<j+ts.length)->cc y q=vv (q-j)/\ff y q=nf (q-j):=by
  intro y q hh;exact⟨by simp only[cc,AX hh],by simp only[ff,AX hh]⟩
 have cout:∀{y q},¬(y=i/\j<=q/\q<j+ts.length)->cc y q=c y q/\ff y q=f y q:=by
  intro y q hh;exact⟨by simp only[cc,AU hh],by simp only[ff,AU hh]⟩
 have hframe:∀{x:T} {v:Value} {S0:Blk},Own w x v S0->(¬S0 blk)->Own (w.setRow blk (arr.toList.take (off+i*e+j)++vs++arr.toList.drop (off+i*e+j+vs.length)).toArray) x v S0:=by
  intro x v S0 ho hnb;exact ho.frame fun b L=>setRow_other (by rintro rfl;exact hnb L)
 refine⟨fun b=>b=blk\/∃y q x,at2 (xs.set i (Dr row j ts)) y q=some x/\ff y q b,.sl cc ff (by simpa using k1) k2 ?_ (k4.set (by simp;omega)) ?_ ?_ ?_ ?_ ?_ (fun b=>Iff.rfl),?_⟩
 .intro row' hr';rcases List.mem_or_eq_of_mem_set hr' with hr'|rfl
  .exact k3 row' hr'
  .rw[OG];exact hrl
 .simp;omega
 .intro y q x H;rw[harr];rcases I y q x H with ⟨B,G,Q,h4⟩|⟨B,G⟩
  .rw[(cin ⟨B,G,Q⟩).1];subst B;rw[AX (by omega),show off+y*e+q-(off+y*e+j)=q-j from by omega];exact(hvv _ _ h4).1
  .rw[(cout B).1];have hj':q<e:=OT G k3;rw[AU]
   .exact k6 y q x G
   .intro hh;apply B;have:y=i:=by
     rcases Nat.lt_trichotomy y i with hlt|heq|hgt
     .have:(y+1)*e<=i*e:=Aj _ hlt;rw[BX,DY]at this;omega
     .exact heq
     .have:(i+1)*e<=y*e:=Aj _ hgt;rw[BX,DY]at this;omega
    subst this;exact⟨rfl,by omega,by omega⟩
 .intro y q x H;rcases I y q x H with ⟨B,G,Q,h4⟩|⟨B,G⟩
  .rw[(cin ⟨B,G,Q⟩).1,(cin ⟨B,G,Q⟩).2];exact hframe (hvv _ _ h4).2 fun L=>O _ _ (by omega) L X
  .rw[(cout B).1,(cout B).2];exact hframe (k7 y q x G) (k8 y q x G)
 .intro y q x H;rcases I y q x H with ⟨B,G,Q,h4⟩|⟨B,G⟩
  .rw[(cin ⟨B,G,Q⟩).2];exact fun L=>O _ _ (by omega) L X
  .rw[(cout B).2];exact k8 y q x G
 .intro i1 j1 x1 i2 j2 x2 hx1 hx2 hne b;rcases I i1 j1 x1 hx1 with ⟨B,G,Q,h4⟩|⟨B,G⟩
  .rw[(cin ⟨B,G,Q⟩).2];rcases I i2 j2 x2 hx2 with ⟨p1,p2,p3,p4⟩|⟨p1,p2⟩
   .rw[(cin ⟨p1,p2,p3⟩).2];have:=hne (B.trans p1.symm);exact hnn _ _ b (by omega) (by omega) (by omega)
   .rw[(cout p1).2];exact fun L Z=>O _ b (by omega) L ((k10 b).2 (.inr ⟨i2,j2,x2,p2,Z⟩))
  .rw[(cout B).2];rcases I i2 j2 x2 hx2 with ⟨p1,p2,p3,p4⟩|⟨p1,p2⟩
   .rw[(cin ⟨p1,p2,p3⟩).2];exact fun L Z=>O _ b (by omega) Z ((k10 b).2 (.inr ⟨i1,j1,x1,G,L⟩))
   .rw[(cout p1).2];exact k9 i1 j1 x1 i2 j2 x2 G p2 hne b
 grind
theorem Zg{sh:Sh}{vs:List Value}{n:Nat}(c:GJ sh n=true)(h:vs.length=n)(e:∀v∈vs,v.oneCell'=true):(mkV sh vs).cells.toList=vs:=by
 cases sh with
 |one=>
  simp only[GJ,beq_iff_eq]at c
  match vs,h.trans c,e with
  | [v],_,e=>
   have:=e v (by simp);simp only[mkV,EH];cases v<;>first|rfl|(simp[Value.oneCell']at this)
 |agg=>simp[mkV,Value.cells]|tup ns=>simp[GJ]at c|ptr k=>simp[GJ]at c|vw k=>simp[GJ]at c
def AXv(S:St)(g:Gh)(x:Opd)(b:Nat):Prop:=∃l,S.one x=some l/\((∃id off,l=.bp id off/\(get S.bx id).isSome/\b=g.β id)\/∃r,l.Bz=some r/\CG S r/\g.fp r b)
theorem ATm{S:St}:∀{ls:List AT} {S:St} {S':St} {cs:List AT} (id:Nat),Jw S ls=some (S',cs)->(get S'.bx id).isSome->(get S.bx id).isSome:=by
 intro ls
 induction ls with
 |nil=>intro S S' cs id h c;simp only[Jw,AD,Prod.mk.injEq]at h;rw[h.1];exact c
 |cons l ls e=>
  intro S S' cs id h c;unfold Jw at h
  grind[St.out,St.kill,DL,Option.isSome_map,Dd]
theorem ARx(h:Inv F S g a w){t:TypeId}{n:Nat}{ox ov:Operand}{x v:Opd}{i:TypeInfo}(q:ev (.st n x v) S=some S')(hi:F.P.info? t=some i)(hn:i.size=n % 1048576)(hox:B9 ox x=true)(hov:B9 ov v=true)
 (hmx:∀p∈CF ox x,Mt F.A F.P p.1 p.2) (hmv:∀p∈CF ov v,Mt F.A F.P p.1 p.2) :
 ∃w' g',(Instr.storeAt t (a.eval ox) (a.eval ov)).run F.P w=.ok () w'/\Inv F S' g' a w'/\∀b,¬AXv S g x b->w'.heap[b]?=w.heap[b]?:=by
 simp only[ev]at q;split at q
 .rename_i p e hp he;split at q
  .rename_i hcond;obtain⟨I,hsh⟩:=hcond;have hrd:=OA h he hov hmv;obtain⟨hpo,hpn⟩:=Hp h hp hox hmx;unfold St.RX at q;split at q
   .rename_i id o;split at q
    .rename_i S1 cs' B;split at q
     .cases q
     .rename_i htop;simp only[El]at htop;have hcs:∃vs nf,a.eval ov=mkV e.sh vs/\Inv F S1 g a w/\Cells F S1 g w cs' vs nf/\cs'.length=e.cs.length:=by
       unfold YM at B;split at B
       .exact YN h hrd B
       .cases B;obtain⟨vs,h1,hc⟩:=hrd.cells;exact⟨vs,_,h1,h,hc,rfl⟩
      obtain⟨vs,nf,h1,y,hc,hl⟩:=hcs;have hpo':a.eval ox=.pointer (some ⟨g.β id,o,none⟩):=hpo;dsimp only at q;split at q
      .rename_i ls hls;split at q
       .rename_i hle;cases q;obtain⟨g',hg⟩:=y.ATg hc hls hle;obtain⟨H,J⟩:=mO y hc hl (by rw[I];exact hsh) htop;have hls0:∃O,get S1.bx id=some O/\ls.length=O.length:=by
         simp only[St.kill,DL,AO]at hls;obtain⟨O,h0,rfl⟩:=hls;exact⟨O,h0,FF _ _⟩
        obtain⟨O,h0,hl0⟩:=hls0;obtain⟨⟨E,hE⟩,hbl⟩:=y.bxs id O h0;have L:(a.eval ov).cells.size=n % 1048576:=by rw[h1,<-Bf,H,hc.1,hl,I]
        have Y:=Xy (e:=0) (P:=F.P) (t:=t) (b:=g.β id) (o:=o) (v:=a.eval ov) hi (by rw[L,hn]) (.of hE) (by
         rw[L];simp only[A3,hbl];omega) (by rw[h1,H];exact J)
        have hsome:(get S.bx id).isSome:=by
         unfold YM at B;split at B
         .unfold LM at B;split at B
          .exact ATm (S:=S) id B (by rw[h0];rfl)
          .cases B
         .cases B;rw[h0];rfl
        refine⟨_,g',by rw[hpo'];exact Y,?_,fun b G=>setRow_other (by rintro rfl;exact G ⟨_,hp,.inl ⟨id,o,rfl,hsome,rfl⟩⟩)⟩;have:(mkV e.sh vs).cells.size=vs.length:=by rw[<-Bf,H]
        simp only[h1,H,this];exact hg
       .cases q
      .cases q
    .cases q
   .rename_i r i' j;split at q
    .rename_i S1 ts B;split at q
     .rename_i e1 xs hx;split at q
      .rename_i row X;split at q
       .rename_i hle;cases q;obtain⟨vs,h1,h2,h3,h4⟩:=hrd;obtain⟨g1,htaken,nf,hT,hnf⟩:=Xk h h3 h2 (by
         intro c l hl;obtain⟨u,hu,hok⟩:=h4 c l hl;exact⟨u,hu,fun _ _ _=>hok,fun _=>hok⟩) B
        obtain⟨t1,t2,t3,t4,t5,t6⟩:=hT;have y:=htaken.inv;obtain⟨e0,xs0,blk,off,len,cap,q1,q2,q3,q4⟩:=hpo;have hfpb:g.fp r blk:=by
         obtain⟨u,hu,Q⟩:=h.Cq r _ q1;rw[q2]at hu;cases hu;cases Q with
         |sc hh _ _=>exact hh.elim|sl c f k1 k2 k3 k4 k5 k6 k7 k8 k9 k10=>exact(k10 blk).2 (.inl rfl)
        have halS:CG S r:=⟨_,q1⟩;obtain⟨x0,hx0,hlike⟩:=htaken.AB7 r _ hx;rw[q1]at hx0;cases hx0;obtain rfl:e0=e1:=by
         rcases hlike with hh|⟨e2,l1,l2,hh1,hh2,_⟩
         .cases hh;rfl
         .cases hh1;cases hh2;rfl
        obtain⟨u,hu,Q⟩:=y.Cq r _ hx;have q2':g1.rv r=some (.slice (some ⟨blk,off,none⟩) len cap):=(htaken.rv r).trans q2;rw[q2']at hu;cases hu;have J:∀v∈vs,v.oneCell'=true:=by
         intro v hv;obtain⟨c,hc⟩:=Bh hv;have hlt:c<ts.length:=by rw[<-t1];exact(AP.1 hc).1
         obtain⟨v',hv',ho⟩:=t2 c ts[c] (by simp[hlt]);rw[hc]at hv';cases hv';exact ho.one
        have H:=Zg hsh (h2.trans I) J;have L:(mkV e.sh vs).cells.size=vs.length:=by rw[<-Bf,H]
        cases Q with
        |sc hh _ _=>exact hh.elim|sl c f k1 k2 k3 k4 k5 k6 k7 k8 k9 k10=>
         rename_i arr E;have hal:CG S1 r:=⟨_,hx⟩;obtain⟨fp',hO,Z⟩:=xe (w:=w) (fp:=g1.fp r) k1 k2 k3 k4 k5 k6 k7 k8 k9 k10 X hle t1 t2 (fun m b hm G=>t4 m r b hm hal G) t6;have hrl:row.length=e0:=k3 row (Ap X);have hi':i'<xs.length:=(AP.1 X).1;have hmul:(i'+1)*e0<=cap*e0:=Aj _ (by omega);rw[BX,DY]at hmul;have Y:=Xy (P:=F.P) (t:=t) (b:=blk) (o:=off+i'*e0+j) (v:=a.eval ov) hi (by rw[h1,L,h2,I,hn]) k4 (by rw[h1,L];omega) (by rw[h1,H];exact J);have hblk:g1.fp r blk:=(k10 blk).2 (.inl rfl);obtain⟨g',hg⟩:=y.ATJ (ys:=xs.set i' (Dr row j ts)) (fp':=fp') hx q2' (by simp) (w':=w.setRow blk (arr.toList.take (off+i'*e0+j)++vs++arr.toList.drop (off+i'*e0+j+vs.length)).toArray)
          Still.setRow (fun b _ G=>setRow_other (by rintro rfl;exact G hblk)) hO
          (fun b G=>by
           rcases Z b G with G|⟨m,hm,G⟩
           .exact y.Gu r hal b G
           .exact t3 m b hm G)
          (fun r' hr' hne b G=>by
           rcases Z b G with G|⟨m,hm,G⟩
           .exact y.dis r r' hal hr' (Ne.symm hne) b G
           .exact t4 m r' b hm hr' G)
          (fun id hid G=>by
           rcases Z _ G with G|⟨m,hm,G⟩
           .exact y.FR r id hal hid G
           .exact t5 m id hm hid G)
         refine⟨_,g',by rw[q4];exact Y,?_,fun b G=>setRow_other (by rintro rfl;exact G ⟨_,hp,.inr ⟨r,rfl,halS,hfpb⟩⟩)⟩;simp only[h1,H,L];exact hg
       .cases q
      .cases q
     .cases q
    .cases q
   .cases q
  .cases q
 .cases q
theorem AKs{p q:AT}{v:Value}{off:Nat}(I:Bt F S g w (fun _=>False) p v)(h:Mk off p=some q) :
 ∃b o,v=.pointer (some ⟨b,o,none⟩)/\Bt F S g w (fun _=>False) q (.pointer (some ⟨b,o+off,none⟩))/\∀x,q≠.ow x:=by
 match p,I with
 |.bp id o,I=>
  have J:v=_:=I;subst J;simp only[Mk,AD]at h;subst h;exact⟨_,_,rfl,rfl,by simp⟩
 |.ep r i j,⟨e,xs,blk,o,len,cap,B,y,E,L⟩=>
  subst L;simp only[Mk,AD]at h;subst h;exact⟨_,_,rfl,⟨e,xs,blk,o,len,cap,B,y,E,by rw[CT]⟩,by simp⟩
 |.vp (.own r _) cs,⟨H,⟨b,o,sp⟩,c,f,B,y,E⟩=>
  subst B;simp only at y;subst y;simp only[Mk,AD]at h;subst h;refine⟨_,_,rfl,⟨H,⟨b,o+off,none⟩,fun j=>c (off+j),fun j=>f (off+j),rfl,rfl,fun j x G=>?_⟩,by simp⟩;rw[Bq]at G;have:=E (off+j) x G;simp only at this ⊢;rw[CT];exact this
 |.vp (.old k) cs,⟨⟨b,o,sp⟩,c,B,y,E⟩=>
  subst B;simp only at y;subst y;simp only[Mk,AD]at h;subst h;refine⟨_,_,rfl,⟨⟨b,o+off,none⟩,fun j=>c (off+j),rfl,rfl,fun j x G=>?_⟩,by simp⟩;rw[Bq]at G;have:=E (off+j) x G;simp only at this ⊢;rw[CT];exact this
theorem ARt(h:Inv F S g a w){d off f:Nat}{t:TypeId}{o:Operand}{x:Opd}(E:d<F.N)(c:ev (.fa d off x) S=some S')(j:XK F.P t f off=true)(L:B9 o x=true)(I:∀p∈CF o x,Mt F.A F.P p.1 p.2) :
 ∃v g',(∀w1:World,(Instr.fieldAt t (a.eval o) f).run F.P w1=.ok v w1)/\Inv F S' g' (a.put (some d) v) w:=by
 simp only[ev]at c;split at c
 .rename_i p O;split at c
  .rename_i q Q;obtain⟨b,o',Y,H,J⟩:=AKs (Hp h O L I).1 Q;unfold XK at j;split at j
   .rename_i fs X;split at j
    .rename_i fl B;simp only[AF,beq_iff_eq]at j;obtain⟨y,e⟩:=j;split at e
     .rename_i i hi;simp only[decide_eq_true_eq]at e;obtain⟨g',G⟩:=QM h E c J H;refine⟨_,g',?_,G⟩;rw[Y,<-y];exact fun _=>mI X B hi e
     .cases e
    .cases j
   .cases j
  .cases c
 .cases c
theorem AFa(h:Inv F S g a w){d:Nat}{o:Operand}{x:Opd}(G:d<F.N)(q:ev (.chk d x) S=some S')(J:B9 o x=true)(H:∀p∈CF o x,Mt F.A F.P p.1 p.2) :
 ∃ad g',a.eval o=.pointer (some ad)/\Inv F S' g' (a.put (some d) (a.eval o)) w:=by
 simp only[ev]at q;split at q
 .rename_i p L;split at q
  .rename_i c;obtain⟨y,I⟩:=Hp h L J H;obtain⟨g',O⟩:=QM h G q I y;have:∃ad,a.eval o=.pointer (some ad):=by
    match p,y with
    |.bp id off,y=>exact⟨_,y⟩|.ep r i j,⟨e,xs,blk,off,len,cap,_,_,_,E⟩=>exact⟨_,E⟩|.vp (.own r _) cs,⟨_,ad,_,_,B,_⟩=>exact⟨_,B⟩|.vp (.old k) cs,⟨ad,_,B,_⟩=>exact⟨_,B⟩|.t _,_=>simp[St.Rm]at c|.und,_=>simp[St.Rm]at c|.ow _,_=>simp[St.Rm]at c|.al _ _,_=>simp[St.Rm]at c|.vw (.own _ _) _ _,_=>simp[St.Rm]at c|.vw (.old _) _ _,_=>simp[St.Rm]at c|.fn _ _,_=>simp[St.Rm]at c
   grind
  .cases q
 .cases q
theorem U6(h:Inv F S g a w){l:AT}{v:Value}(y:Bt F S g w (fun _=>False) l v){xs:List (List T)}(c:S.elems l=some xs) :
 (xs=[]/\v=.slice none 0 0)\/∃e,View w (fun _=>True) (.sl e xs) v/\∀q,S.wide q l=true->q=e:=by
 have up:∀{B:Blk} {x:T} {v:Value},View w B x v->View w (fun _=>True) x v:=fun Q=>Q.mono (fun _ _=>trivial) fun _ _=>rfl
 match l,y with
 |.al r sub,⟨x,u,I,J,L⟩=>
  simp only[St.elems,I,AO]at c;obtain⟨ys,H,rfl⟩:=c;obtain⟨X,G,E⟩:=h.Cq r _ I;rw[J]at G;cases G;obtain⟨S0,_,hO⟩:=RD E L;cases x with
  |sl e Y=>
   simp only[content,AD]at H;subst H;exact .inr ⟨e,up hO.view,fun q j=>by simp[St.wide,I,eOf]at j;exact j.symm⟩
  |nil=>
   simp only[content,AD]at H;subst H;cases hO with
   |sc O _ _=>exact .inl ⟨by cases sub with|none=>rfl|some p=>simp[Jg],O⟩
  |_=>simp[content]at H
 |.vw (.own r _) e ys,⟨_,⟨S0,_,hO⟩,_⟩=>
  simp only[St.elems,AD]at c;subst c;exact .inr ⟨e,up hO.view,fun q j=>by simp[St.wide]at j;exact j.symm⟩
 |.vw (.old k) e ys,y=>
  simp only[St.elems,AD]at c;subst c;exact .inr ⟨e,up y,fun q j=>by simp[St.wide]at j;exact j.symm⟩
 |.t x,y=>
  cases x with
  |nil=>simp only[St.elems,AD]at c;subst c;exact .inl ⟨rfl,y⟩|_=>simp[St.elems]at c
 |.und,_=>simp[St.elems]at c|.ow _,_=>simp[St.elems]at c|.ep _ _ _,_=>simp[St.elems]at c|.vp (.own _ _) _,_=>simp[St.elems]at c|.vp (.old _) _,_=>simp[St.elems]at c|.bp _ _,_=>simp[St.elems]at c|.fn _ _,_=>simp[St.elems]at c
theorem Ge{P:Program}{t:TypeId}{e:Nat}(h:Fo P t e=true):∃el i,P.underlying t=some (.slice el)/\P.info? el=some i/\i.size=e/\i.bytes<=65536/\0<e:=by
 grind[Fo]
theorem wH(h:Inv F S g a w){d:Nat}{t ty:TypeId}{o:Operand}{x:Opd}(e:d<F.N)(c:ev (.lens d x) S=some S')(E:isStr F.P t=true)(q:B9 o x=true)(j:∀p∈CF o x,Mt F.A F.P p.1 p.2) :
 (∃v g',(∀w1:World,(Builtin.len_ #[t] ty #[a.eval o]).run F.P w1=.ok v w1)/\Inv F S' g' (a.put (some d) v) w):=by
 simp only[ev]at c;split at c
 .rename_i s y;have G:a.eval o=.string ⟨s.toArray⟩:=QP h y q j;obtain⟨g',B⟩:=Ku (v:=.int .i64 s.length) h e c rfl
  grind[isStr,run_len_string,goInt,ByteArray.size]
 .cases c
theorem AFf(h:Inv F S g a w){d:Nat}{t ty:TypeId}{o:Operand}{x:Opd}(H:d<F.N)(j:ev (.len d x) S=some S')
 (E:(match F.P.underlying t with|some (.slice _)=>true|_=>false)=true) (O:B9 o x=true) (L:∀p∈CF o x,Mt F.A F.P p.1 p.2) :
 (∃v g',(∀w1:World,(Builtin.len_ #[t] ty #[a.eval o]).run F.P w1=.ok v w1)/\Inv F S' g' (a.put (some d) v) w):=by
 simp only[ev]at j;split at j
 .rename_i l J;obtain⟨y,Y⟩:=Hp h J O L;split at j
  .rename_i xs B;obtain⟨g',I⟩:=Ku (v:=.int .i64 xs.length) h H j rfl;have q:∃ad cap,a.eval o=.slice ad xs.length cap:=by
    rcases U6 h y B with ⟨rfl,q⟩|⟨e,q,_⟩
    .exact⟨none,0,q⟩
    .generalize a.eval o=u at q;cases q with|nl=>exact⟨_,_,rfl⟩|sc Q=>exact Q.elim|sl c G=>exact⟨_,_,by rw[G]⟩
   obtain⟨ad,cap,q⟩:=q;split at E
   .rename_i el X;refine⟨_,g',?_,I⟩;rw[q];simp[Builtin.len_,run_underlying X,goInt]
   .cases E
  .cases j
 .cases j
theorem yF{xs:List (List T)}{n j:Nat}{x:T}(h:(xs.getD n [])[j]?=some x):at2 xs n j=some x:=by
 grind[at2]
theorem ARu(h:Inv F S g a w){d e:Nat}{t:TypeId}{o oi:Operand}{x i:Opd}(hd:d<F.N)(B:ev (.ia d e x i) S=some S')(he:Fo F.P t e=true)(ho:B9 o x=true)(hoi:B9 oi i=true)
 (hm:∀p∈CF o x,Mt F.A F.P p.1 p.2) (hmi:∀p∈CF oi i,Mt F.A F.P p.1 p.2) :
 ∃v g',(∀w1:World,(Instr.indexAt t (a.eval o) (a.eval oi)).run F.P w1=.ok v w1)/\Inv F S' g' (a.put (some d) v) w:=by
 obtain⟨el,ti,hu,hti,hsz,_,_⟩:=Ge he;simp only[ev]at B;split at B
 .rename_i l n hl hn;obtain⟨k,hk⟩:=TH h hn hoi hmi;obtain⟨hok,hnow⟩:=Hp h hl ho hm;split at B
  .rename_i xs y;split at B
   .rename_i hcond;obtain⟨hwide,h0,h1⟩:=hcond;rw[hk];have G:n.toNat<xs.length:=by omega
    have fin:∀(blk off len cap:Nat) (q:AT),a.eval o=.slice (some ⟨blk,off,none⟩) len cap->len=xs.length->S.D9 d ⟨.one,[q]⟩=some S'->(∀x,q≠.ow x) ->
     Bt F S g w (fun _=>False) q (.pointer (some ⟨blk,off+n.toNat*e,none⟩)) ->
     ∃v g',(∀w1:World,(Instr.indexAt t (a.eval o) (.int k n)).run F.P w1=.ok v w1)/\Inv F S' g' (a.put (some d) v) w:=by
     intro blk off len cap q hv hlen hp hq Q;obtain⟨g',hg⟩:=QM h hd hp hq Q;refine⟨_,g',?_,hg⟩;rw[hv,<-hsz];exact fun _=>mJ hu hti h0 (by omega)
    match l,hok with
    |.al r sub,⟨x,u,q1,q2,q3⟩=>
     have hwide':=hwide;simp only[St.wide,q1]at hwide';simp only[St.elems,q1,AO]at y;obtain⟨ys,hy,rfl⟩:=y;obtain⟨u',Z,X⟩:=h.Cq r _ q1;rw[q2]at Z;cases Z;cases x with
     |sl J zs=>
      simp only[eOf,beq_iff_eq]at hwide';subst hwide';simp only[content,AD]at hy;subst hy;cases X with
      |sc O _ _=>exact O.elim|nl=>cases sub<;>simp[Jg]at G
      |sl c f k1 k2 k3 k4 k5 k6 k7 k8 k9 L=>
       rename_i blk off len cap arr E;cases sub with
       |none=>
        have hv:a.eval o=.slice (some ⟨blk,off,none⟩) len cap:=q3;exact fin blk off len cap _ hv (by simpa[Jg] using k1) B (by simp) ⟨J,zs,blk,off,len,cap,q1,q2,by simpa[Jg] using G,by simp⟩
       |some p=>
        obtain⟨lo,m⟩:=p;obtain⟨blk',off',len',cap',off'',cap'',p1,p2,p3,p4,p5,p6⟩|⟨p1,_⟩:=q3
        case inr=>cases p1
        cases p1;simp only[Jg,List.length_take,List.length_drop]at G;have hc:cap''≠0:=by omega
        refine fin blk off'' m cap'' _ p2 (by simp[Jg];omega) B (by simp) ⟨J,zs,blk,off,len,cap,q1,q2,by omega,?_⟩;rw[p5 hc,BX];congr 3;omega
     |nil=>simp only[content,AD]at hy;subst hy;cases sub<;>simp[Jg]at G
     |_=>simp[content]at hy
    |.vw (.own r _) J ys,⟨hal,⟨S0,hS0,hO⟩,_⟩=>
     simp only[St.elems,AD]at y;subst y;simp only[St.wide,beq_iff_eq]at hwide;subst hwide;obtain⟨vo,I⟩:∃vo,a.eval o=vo:=⟨_,rfl⟩;rw[I]at hO;cases hO with
     |sc O _ _=>exact O.elim|nl=>simp at G|sl c f k1 k2 k3 k4 k5 k6 k7 k8 k9 L=>
      rename_i blk off len cap arr E;refine fin blk off len cap _ I k1 B (by simp) ⟨hal,⟨blk,off+n.toNat*J,none⟩,fun j=>c n.toNat j,fun j=>f n.toNat j,rfl,rfl,fun j x hx=>?_⟩;have H:=yF hx;refine⟨hS0 _ ((L _).2 (.inl rfl)),?_,fun b hb=>hS0 b ((L b).2 (.inr ⟨_,_,_,H,hb⟩)),k7 _ _ _ H⟩;rw[k4.cell];exact k6 _ _ _ H
    |.vw (.old kk) J ys,hV=>
     simp only[St.elems,AD]at y;subst y;simp only[St.wide,beq_iff_eq]at hwide;subst hwide;obtain⟨vo,I⟩:∃vo,a.eval o=vo:=⟨_,rfl⟩;rw[I]at hV;have hV':View w (F.R kk) (.sl J ys) vo:=hV;cases hV' with
     |nl=>simp at G|sc O=>exact O.elim|sl c k1 k2 k3 k4 k5 k6=>
      rename_i ad len cap;have hne:ys≠[]:=by rintro rfl;simp at G
      obtain⟨Y,hR⟩:=k4 hne;obtain⟨blk,off,sp⟩:=ad;simp only at Y hR k5;subst Y;refine fin blk off len cap _ I k1 B (by simp) ⟨⟨blk,off+n.toNat*J,none⟩,fun j=>c n.toNat j,rfl,rfl,fun j x hx=>?_⟩;have H:=yF hx;exact⟨hR,k5 _ _ _ H,k6 _ _ _ H⟩
    |.t x,_=>cases x<;>first|(simp only[St.elems,AD]at y;subst y;simp at G)|simp[St.elems]at y
    |.und,_=>simp[St.elems]at y|.ow _,_=>simp[St.elems]at y|.ep _ _ _,_=>simp[St.elems]at y|.vp (.own _ _) _,_=>simp[St.elems]at y|.vp (.old _) _,_=>simp[St.elems]at y|.bp _ _,_=>simp[St.elems]at y|.fn _ _,_=>simp[St.elems]at y
   .cases B
  .cases B
 .cases B
theorem ARv(h:Inv F S g a w){d:Nat}{t:TypeId}{o oi:Operand}{x i:Opd}(y:d<F.N)(c:ev (.ix d x i) S=some S')(q:isStr F.P t=true)(G:B9 o x=true)(j:B9 oi i=true)
 (B:∀p∈CF o x,Mt F.A F.P p.1 p.2) (e:∀p∈CF oi i,Mt F.A F.P p.1 p.2) :
 ∃v g',(∀w1:World,(Instr.index t (a.eval o) (a.eval oi)).run F.P w1=.ok v w1)/\Inv F S' g' (a.put (some d) v) w:=by
 simp only[ev]at c;split at c
 .rename_i s n H E;obtain⟨k,J⟩:=TH h E j e;have O:a.eval o=.string ⟨s.toArray⟩:=QP h H G B;split at c
  .rename_i hcond;unfold isStr at q;split at q
   .rename_i L;obtain⟨g',I⟩:=Ku (v:=.int .u8 (s.getD n.toNat 0).toNat) h y c rfl
    grind[xI]
   .cases q
  .cases c
 .cases c
theorem ARy(h:Inv F S g a w){d:Nat}{op:UnOp}{o:Operand}{x:Opd}(y:d<F.N)(c:ev (.un d op x) S=some S')(G:B9 o x=true)(E:∀p∈CF o x,Mt F.A F.P p.1 p.2) :
 ∃v g',(∀w1:World,(Op.unary op (a.eval o)).run F.P w1=.ok v w1)/\Inv F S' g' (a.put (some d) v) w:=by
 simp only[ev]at c;split at c
 .rename_i I H;have B:=QP h H G E;split at c
  .rename_i t j;cases I with
   |bool b=>
    have e:a.eval o=.bool b:=B;cases op<;>simp[unT]at j;subst j;obtain⟨g',q⟩:=Ku (v:=.bool !b) h y c rfl;exact⟨_,g',by rw[e];intro w1;rfl,q⟩
   |int k n=>
    have e:a.eval o=.int k n:=B;cases op<;>simp[unT]at j;subst j;obtain⟨g',q⟩:=Ku (v:=.int k (k.wrap (-n))) h y c rfl;refine⟨_,g',?_,q⟩;rw[e,<-Int.zero_sub];intro w1;rfl
   |_=>cases op<;>simp[unT]at j
  .cases c
 .cases c
theorem AFc(h:Inv F S g a w){d:Nat}{k:IntKind}{s t:TypeId}{o:Operand}{x:Opd}(y:d<F.N)(c:ev (.cvI d k x) S=some S')(H:B9 o x=true)(E:∀p∈CF o x,Mt F.A F.P p.1 p.2)
 (e:isInt F.P t k=true) (q:(match F.P.underlying s with|some (.int _)=>true|_=>false)=true) :
 ∃v g',(∀w1:World,(convert s t (a.eval o)).run F.P w1=.ok v w1)/\Inv F S' g' (a.put (some d) v) w:=by
 simp only[ev]at c;split at c
 .rename_i n G;obtain⟨L,J⟩:=TH h G H E;obtain⟨g',B⟩:=Ku (v:=.int k (k.wrap n)) h y c rfl;unfold isInt at e;split at e
  .rename_i O I;simp only[decide_eq_true_eq]at e;subst e;split at q
   .rename_i Q j;refine⟨_,g',?_,B⟩;rw[J];simp[convert,run_underlying I,run_underlying j,Conv.intToInt]
   .cases q
  .cases e
 .cases c
theorem AJK(h:Inv F S g a w){d:Nat}{m:Bool}{oa ob:Operand}{x y:Opd}(H:d<F.N)(c:ev (.mm d m x y) S=some S')(E:B9 oa x=true)(G:B9 ob y=true)
 (j:∀p∈CF oa x,Mt F.A F.P p.1 p.2) (B:∀p∈CF ob y,Mt F.A F.P p.1 p.2) {ts:Array TypeId} {t:TypeId} :
 ∃v g',(∀w1:World,((if m then Builtin.max_ ts t #[a.eval oa,a.eval ob] else Builtin.min_ ts t #[a.eval oa,a.eval ob]):Sem Value).run F.P w1=.ok v w1)/\Inv F S' g' (a.put (some d) v) w:=by
 simp only[ev]at c;split at c
 .rename_i k p e q Q X;split at c
  .rename_i O;subst O;have J:a.eval oa=.int e p:=QP h Q E j;have L:a.eval ob=.int e q:=QP h X G B;cases m with
   |true=>
    obtain⟨g',I⟩:=Ku (x:=.int e (if q>p then q else p)) (v:=.int e (if q>p then q else p)) h H (by simpa using c) rfl
    grind[run_max_int2]
   |false=>
    obtain⟨g',I⟩:=Ku (x:=.int e (if q<p then q else p)) (v:=.int e (if q<p then q else p)) h H (by simpa using c) rfl;refine⟨_,g',?_,I⟩;rw[J,L];exact fun w1=>run_min_int2 w1 ts t e e p q
  .cases c
 .cases c
theorem rF{P:Program}{w:World}{k:IntKind}{n:Int}{y:Nat}{c:BoundsCode}(e:0<=n)(h:n<=y):(Instr.sliceBound (.int k n) y c).run P w=.ok n.toNat w:=by
 simp[Instr.sliceBound,asIntOf,e,h,go_sem]
theorem N9(h:Inv F S g a w){len cap:Nat}{lo hi:Option Operand}{xlo xhi:Option Opd}{p:Nat×Nat}(j:S.range len xlo xhi=some p)(O:len<=cap)(e:Ul lo xlo=true)(c:Ul hi xhi=true)
 (E:∀p∈TJ lo xlo,Mt F.A F.P p.1 p.2) (B:∀p∈TJ hi xhi,Mt F.A F.P p.1 p.2) (sl:Bool) :
 p.1<=p.2/\p.2<=len/\∀w1:World,(Instr.sliceBounds sl len cap (lo.map a.eval) (hi.map a.eval) none).run F.P w1=.ok (p.1,p.2,cap) w1:=by
 unfold St.range at j;split at j
 .rename_i x y H I;split at j
  .rename_i Q;cases j;refine⟨by simp;omega,by simp;omega,fun w1=>?_⟩;have J:(match hi.map a.eval with|some v=>Instr.sliceBound v cap (if sl then .sliceAcap else .sliceAlen)|none=>(pure len:Sem Nat)).run F.P w1=.ok y.toNat w1:=by
    match hi,xhi,c with
    |none,none,_=>simp only[St.ARh,AD]at I;subst I;rfl|some o,some xo,c=>
     obtain⟨k,q⟩:=TH h I c (fun p G=>B p G);simp only[Ar,q];exact rF (by omega) (by omega)
   have L:(match lo.map a.eval with|some v=>Instr.sliceBound v y.toNat .sliceB|none=>(pure 0:Sem Nat)).run F.P w1=.ok x.toNat w1:=by
    match lo,xlo,e with
    |none,none,_=>simp only[St.ARh,AD]at H;subst H;rfl|some o,some xo,e=>
     obtain⟨k,q⟩:=TH h H e (fun p G=>E p G);simp only[Ar,q];exact rF (by omega) (by omega)
   generalize hi.map a.eval=vh at *;generalize lo.map a.eval=vl at *;unfold Instr.sliceBounds;cases vh<;>cases vl<;>simp_all[go_sem]
  .cases j
 .cases j
theorem wW(h:Inv F S g a w){d:Nat}{t:TypeId}{o:Operand}{x:Opd}{lo hi:Option Operand}{xlo xhi:Option Opd}(Q:d<F.N)(c:ev (.Vf d x xlo xhi) S=some S')(I:isStr F.P t=true)(Z:B9 o x=true)
 (B:Ul lo xlo=true) (y:Ul hi xhi=true) (Y:∀p∈CF o x,Mt F.A F.P p.1 p.2) (G:∀p∈TJ lo xlo,Mt F.A F.P p.1 p.2) (E:∀p∈TJ hi xhi,Mt F.A F.P p.1 p.2) :
 ∃v g',(∀w1:World,(Instr.sliceAt t (a.eval o) (lo.map a.eval) (hi.map a.eval) none).run F.P w1=.ok v w1)/\Inv F S' g' (a.put (some d) v) w:=by
 simp only[ev]at c;split at c
 .rename_i s hs;have hv:a.eval o=.string ⟨s.toArray⟩:=QP h hs Z Y;split at c
  .rename_i p q hr;unfold isStr at I;split at I
   .rename_i J;obtain⟨L,O,e⟩:=N9 h hr (Ad _) B y G E false;simp only at L O e;obtain⟨g',X⟩:=Ku (v:=.string ⟨((s.drop p).take (q-p)).toArray⟩) h Q c rfl;refine⟨_,g',fun w1=>?_,X⟩;have e:=e w1;rw[hv,run_sliceAt_string _ _ _ _ _ _ J];have H:(⟨s.toArray⟩:ByteArray).size=s.length:=by simp[ByteArray.size]
    have j:(⟨s.toArray⟩:ByteArray).extract p q=⟨((s.drop p).take (q-p)).toArray⟩:=by
     apply ByteArray.ext;simp[ByteArray.data_extract,Gq]
    simp[Instr.slice,run_underlying J,H,go_sem]at e ⊢;simp[e,j,go_sem]
   .cases I
  .cases c
 .cases c
theorem xN{P:Program}{w:World}{t el:TypeId}{i:TypeInfo}{ad:Option Addr}{len cap p q:Nat}{lo hi:Option Value}(h:P.underlying t=some (.slice el))(c:P.info? el=some i)
 (e:(Instr.sliceBounds true len cap lo hi none).run P w=.ok (p,q,cap) w) :
 (Instr.sliceAt t (.slice ad len cap) lo hi none).run P w=.ok (.slice (if cap=p then ad else ad.map (·.add (p*i.size))) (q-p) (cap-p)) w:=by
 simp[Instr.sliceAt,Instr.slice,run_underlying h,go_sem]at e ⊢;simp[e,G9 c,go_sem]
theorem AFh(h:Inv F S g a w){d e:Nat}{t:TypeId}{o:Operand}{x:Opd}{lo hi:Option Operand}{xlo xhi:Option Opd}(hd:d<F.N)(y:ev (.sub d e x xlo xhi) S=some S')(he:Fo F.P t e=true)(ho:B9 o x=true)
 (hlo:Ul lo xlo=true) (hhi:Ul hi xhi=true) (hm:∀p∈CF o x,Mt F.A F.P p.1 p.2) (hml:∀p∈TJ lo xlo,Mt F.A F.P p.1 p.2) (hmh:∀p∈TJ hi xhi,Mt F.A F.P p.1 p.2) :
 ∃v g',(∀w1:World,(Instr.sliceAt t (a.eval o) (lo.map a.eval) (hi.map a.eval) none).run F.P w1=.ok v w1)/\Inv F S' g' (a.put (some d) v) w:=by
 obtain⟨el,ti,hu,hti,hsz,_,_⟩:=Ge he;simp only[ev]at y;split at y
 .rename_i l hl;obtain⟨L,hnow⟩:=Hp h hl ho hm;split at y
  .rename_i xs B;have hxs':S.wide e l=true/\S.elems l=some xs:=by
    by_cases hw:S.wide e l=true
    .exact⟨hw,by simpa[hw] using B⟩
    .simp[hw]at B
   obtain⟨hwide,B⟩:=hxs';split at y
   .rename_i p q hr;have fin:∀(ad:Option Addr) (cap:Nat) (ql:AT),a.eval o=.slice ad xs.length cap->xs.length<=cap->S.D9 d ⟨.one,[ql]⟩=some S'->(∀x,ql≠.ow x) ->
     (p<=q->q<=xs.length->Bt F S g w (fun _=>False) ql (.slice (if cap=p then ad else ad.map (·.add (p*e))) (q-p) (cap-p))) ->
     ∃v g',(∀w1:World,(Instr.sliceAt t (a.eval o) (lo.map a.eval) (hi.map a.eval) none).run F.P w1=.ok v w1)/\Inv F S' g' (a.put (some d) v) w:=by
     intro ad cap ql hv hlc hp hq hok';obtain⟨X,H,h3⟩:=N9 h hr hlc hlo hhi hml hmh true;obtain⟨g',hg⟩:=QM h hd hp hq (hok' X H);refine⟨_,g',?_,hg⟩;rw[hv,<-hsz];exact fun w1=>xN hu hti (h3 w1)
    match l,L with
    |.al r sub,⟨x,u,q1,q2,Z⟩=>
     have hwide':=hwide;simp only[St.wide,q1]at hwide';simp only[St.elems,q1,AO]at B;obtain⟨ys,hy,rfl⟩:=B;obtain⟨u',hu',hown⟩:=h.Cq r _ q1;rw[q2]at hu';cases hu';cases x with
     |sl J zs=>
      simp only[eOf,beq_iff_eq]at hwide';subst hwide';simp only[content,AD]at hy;subst hy;cases hown with
      |sc I _ _=>exact I.elim|nl hn=>
       have hxe:Jg sub ([]:List (List T))=[]:=by cases sub<;>simp[Jg]
       have hv:a.eval o=.slice none 0 0/\(sub=none\/sub=some (0,0)):=by
        cases sub with
        |none=>exact⟨Z,.inl rfl⟩|some pr=>
         obtain⟨lo0,m⟩:=pr;obtain⟨_,_,_,_,_,_,Z,_⟩|⟨_,Z,_,rfl,rfl⟩:=Z
         .cases Z
         .exact⟨Z,.inr rfl⟩
       obtain⟨hv,Y⟩:=hv;rw[hxe]at fin;rcases Y with rfl|rfl <;>
       .refine fin none 0 _ hv (FQ _) y (by simp) ?_;intro X H;simp only[AN]at H;refine⟨_,_,q1,q2,?_⟩;have:p=0:=by omega
        subst this;have:q=0:=by omega
        subst this;exact .inr ⟨rfl,by simp,rfl,rfl,rfl⟩
      |sl c f k1 k2 k3 k4 k5 k6 k7 k8 k9 k10=>
       rename_i blk off len cap arr E;cases sub with
       |none=>
        have hv:a.eval o=.slice (some ⟨blk,off,none⟩) len cap:=Z;simp only[Jg]at fin;refine fin (some ⟨blk,off,none⟩) cap _ (by rw[hv,k1]) (by omega) y (by simp) ?_;intro X H;refine⟨.sl J zs,_,q1,q2,?_⟩;by_cases O:cap=p
        .refine .inl ⟨blk,off,len,cap,off,cap-p,rfl,by simp[O],by omega,rfl,fun I=>(I (by omega)).elim,Nat.le_add_right _ _⟩
        .refine .inl ⟨blk,off,len,cap,off+p*J,cap-p,rfl,by simp[O,Gz],by omega,rfl,fun _=>rfl,Ad _⟩
       |some pr=>
        obtain⟨lo0,m⟩:=pr;obtain⟨blk',off',len',cap',off'',cap'',p1,p2,p3,p4,p5,p6⟩|⟨p1,_⟩:=Z
        case inr=>cases p1
        cases p1;have G:(Jg (some (lo0,m)) zs).length=m:=by simp[Jg];omega
        refine fin (some ⟨blk,off'',none⟩) cap'' _ (by rw[p2,G]) (by omega) y (by simp) ?_;intro X H;rw[G]at H;refine⟨.sl J zs,_,q1,q2,?_⟩;have hmul:(lo0+p)*J=lo0*J+p*J:=BX ..;by_cases O:cap''=p
        .exact .inl ⟨blk,off,len,cap,off'',cap''-p,rfl,by simp[O],by omega,by omega,fun I=>(I (by omega)).elim,by omega⟩
        .have:=p5 (by omega);exact .inl ⟨blk,off,len,cap,off''+p*J,cap''-p,rfl,by simp[O,Gz],by omega,by omega,fun _=>by omega,by omega⟩
     |nil=>
      simp only[content,AD]at hy;subst hy;have hxe:Jg sub ([]:List (List T))=[]:=by cases sub<;>simp[Jg]
      cases hown with
      |sc hs _ _=>
       have hs':u=.slice none 0 0:=hs;have hv:a.eval o=.slice none 0 0:=by
        cases sub with
        |none=>exact(show a.eval o=u from Z).trans hs'|some pr=>exact Z.1.trans hs'
       have Y:sub=none\/sub=some (0,0):=by
        cases sub with
        |none=>exact .inl rfl|some pr=>obtain⟨_,e1,e2⟩:=Z;exact .inr (by cases pr;simp_all)
       rw[hxe]at fin;rcases Y with rfl|rfl
       .refine fin none 0 _ hv (FQ _) y (by simp) ?_;intro X H;simp only[AN]at H;refine⟨.nil,u,q1,q2,?_⟩;refine⟨?_,by omega,by omega⟩;rw[hs'];have:p=0:=by omega
        subst this;have:q=0:=by omega
        subst this;simp
       .refine fin none 0 _ hv (FQ _) y (by simp) ?_;intro X H;simp only[AN]at H;refine⟨.nil,u,q1,q2,?_⟩;refine⟨?_,by omega,by omega⟩;rw[hs'];have:p=0:=by omega
        subst this;have:q=0:=by omega
        subst this;simp
     |_=>simp[content]at hy
    |.vw s J ys,L=>
     simp only[St.elems,AD]at B;subst B;simp only[St.wide,beq_iff_eq]at hwide;subst hwide;obtain⟨vo,Q⟩:∃vo,a.eval o=vo:=⟨_,rfl⟩;cases s with
     |own r=>
      obtain⟨hal,⟨S0,hS0,hO⟩,_⟩:=L;rw[Q]at hO;have hO2:=hO;cases hO with
      |sc I _ _=>exact I.elim|nl hn=>
       refine fin none 0 _ Q (FQ _) y (by simp) ?_;intro X H;simp only[AN]at H;have:p=0:=by omega
       subst this;have:q=0:=by omega
       subst this;exact⟨hal,⟨S0,hS0,by simpa using Own.nl hn⟩,trivial⟩
      |sl c f k1 k2 k3 k4 k5 k6 k7 k8 k9 k10=>
       rename_i blk off len cap arr E;refine fin (some ⟨blk,off,none⟩) cap _ (by rw[Q,k1]) (by omega) y (by simp) ?_;intro X H;by_cases O:cap=p
       .obtain⟨S1,hS1,hO3⟩:=hO2.sub (lo:=p) (n:=q-p) (off':=off) (cap':=cap-p) (by omega) (by omega) (Ad _) (fun I=>(I (by omega)).elim) (by omega);exact⟨hal,⟨S1,fun b hb=>hS0 b (hS1 b hb),by simpa[O] using hO3⟩,trivial⟩
       .obtain⟨S1,hS1,hO3⟩:=hO2.sub (lo:=p) (n:=q-p) (off':=off+p*J) (cap':=cap-p) (by omega) (by omega) (Ad _) (fun _=>rfl) (Ad _);exact⟨hal,⟨S1,fun b hb=>hS0 b (hS1 b hb),by simpa[O,Gz] using hO3⟩,trivial⟩
     |old k=>
      rw[Q]at L;have hV:View w (F.R k) (.sl J ys) vo:=L;cases hV with
      |sc I=>exact I.elim|nl=>
       refine fin none 0 _ Q (FQ _) y (by simp) ?_;intro X H;simp only[AN]at H;have:p=0:=by omega
       subst this;have:q=0:=by omega
       subst this;exact .nl
      |sl c k1 k2 k3 k4 k5 k6=>
       rename_i ad len cap;refine fin (some ad) cap _ (by rw[Q,k1]) (by omega) y (by simp) ?_;intro X H;have hsubat:∀i j x,at2 ((ys.drop p).take (q-p)) i j=some x->i<q-p/\at2 ys (p+i) j=some x:=fun i j x hx=>OU hx
       have G:((ys.drop p).take (q-p)).length=q-p:=by simp;omega
       have hrows:∀row∈(ys.drop p).take (q-p),row.length=J:=fun row hr=>k3 row (C8 (GB hr))
       have hne:(ys.drop p).take (q-p)≠[]->ys≠[]/\cap≠p:=by
        intro I;have:0<((ys.drop p).take (q-p)).length:=List.length_pos_iff.2 I;rw[G]at this;refine⟨by rintro rfl;simp at H;omega,by omega⟩
       have hV2:View w (F.R k) (.sl J ((ys.drop p).take (q-p))) (.slice (some (if cap=p then ad else ad.add (p*J))) (q-p) (cap-p)):=by
        have hadd:ad.spot=none->cap≠p->(if cap=p then ad else ad.add (p*J)).block=ad.block/\(if cap=p then ad else ad.add (p*J)).off=ad.off+p*J/\(if cap=p then ad else ad.add (p*J)).spot=none:=by
         intro hsp O;obtain⟨b,of,sp⟩:=ad;simp only at hsp;subst hsp;simp[O,Gz]
        refine .sl (fun i j=>c (p+i) j) G.symm (by omega) hrows ?_ ?_ ?_
        .intro I;obtain⟨e1,e2⟩:=hne I;obtain⟨f1,f2⟩:=k4 e1;obtain⟨g1,g2,g3⟩:=hadd f1 e2;exact⟨g3,by rw[g1];exact f2⟩
        .intro i j x hx;obtain⟨m1,m2⟩:=hsubat i j x hx;have I:(ys.drop p).take (q-p)≠[]:=by intro I;rw[I]at G;simp at G;omega
         obtain⟨e1,e2⟩:=hne I;obtain⟨g1,g2,g3⟩:=hadd (k4 e1).1 e2;rw[g1,g2];have:=k5 _ _ _ m2;rw[BX]at this;rw[<-this];congr 2;omega
        .intro i j x hx;exact k6 _ _ _ (hsubat i j x hx).2
       show View w (F.R k) _ _;by_cases O:cap=p
       .rw[AX O]at hV2 ⊢;exact hV2
       .rw[AU O]at hV2 ⊢;exact hV2
    |.t x,L=>
     cases x with
     |nil=>
      simp only[St.elems,AD]at B;subst B;refine fin none 0 _ L (FQ _) y (by simp) ?_;intro X H;simp only[AN]at H;have:p=0:=by omega
      subst this;have:q=0:=by omega
      subst this;rfl
     |_=>simp[St.elems]at B
    |.und,_=>simp[St.elems]at B|.ow _,_=>simp[St.elems]at B|.ep _ _ _,_=>simp[St.elems]at B|.vp _ _,_=>simp[St.elems]at B|.bp _ _,_=>simp[St.elems]at B|.fn _ _,_=>simp[St.elems]at B
   .cases y
  .cases y
 .cases y
theorem ACn{P:Program}{w:World}{op:BinOp}{t:TypeId}{ox oy:Operand}{x y r:T}{vx vy:Value}(H:Sc x vx)(I:Sc y vy)(c:dO op x y=some r) :
 ∃v,(do eqGuard op t ox oy vx vy;binOp op t vx vy:Sem Value).run P w=.ok v w/\Sc r v:=by
 match x,y,c with
 |.int k p,.int J q,c=>
  have h:vx=.int k p:=H;have j:vy=.int J q:=I;subst h j;have E:(eqGuard op t ox oy (.int k p) (.int J q)).run P w=.ok () w:=by cases op<;>simp[eqGuard]
  rw[Ak,E,DZ];simp only[dO,AJ0]at c;cases op<;>simp only[AF4,az]at c
  case shl=>split at c<;>simp at c;subst c;rename_i e;exact⟨_,by simp[binOp,Op.shift,e],rfl⟩
  case shr=>split at c<;>simp at c;subst c;rename_i e;exact⟨_,by simp[binOp,Op.shift,e],rfl⟩
  case quo=>
   split at c
   .split at c
    .simp at c
    .rename_i B e;subst B;cases c;exact⟨_,by simp[binOp,Op.intDiv,e],rfl⟩
   .simp at c
  case rem=>
   split at c
   .split at c
    .simp at c
    .rename_i B e;subst B;cases c;exact⟨_,by simp[binOp,Op.intDiv,e],rfl⟩
   .simp at c
  all_goals
   split at c
   .rename_i B;subst B
    first
     |(cases c;exact⟨_,by simp[binOp,Op.intArith,Op.intBits,Op.intCmp],rfl⟩)
     |simp at c
   .simp at c
 |.str p,.str q,c=>
  have h:vx=.string ⟨p.toArray⟩:=H;have j:vy=.string ⟨q.toArray⟩:=I;subst h j;have E:(eqGuard op t ox oy (.string ⟨p.toArray⟩) (.string ⟨q.toArray⟩)).run P w=.ok () w:=by cases op<;>simp[eqGuard]
  rw[Ak,E,DZ];have G:∀s:List UInt8,(⟨s.toArray⟩:ByteArray).toList=s:=fun s=>by rw[ByteArray.toList_eq]
  simp only[dO,AJ0]at c;cases op<;>simp at c
  case add=>
   obtain⟨L,rfl⟩:=c;refine⟨.string ⟨(p++q).toArray⟩,?_,rfl⟩;have O:(⟨p.toArray⟩:ByteArray).size+(⟨q.toArray⟩:ByteArray).size<=9223372036854775807:=by
    simp only[ByteArray.size,A3,OI]at *;omega
   rw[<-ByteArray.mk_append_mk];exact run_string_add_sum w _ _ O
  case eql=>subst c;exact⟨_,by simp[binOp,Op.stringOp,G],rfl⟩
  case neq=>subst c;exact⟨.bool (p != q),by simp[binOp,Op.stringOp,G,bne],rfl⟩
theorem ADJ{ls:List AT}{ts:List T}(h:Vh ls=some ts):ls=ts.map .t:=by
 induction ls generalizing ts with
 |nil=>simp[Vh]at h;subst h;rfl|cons l ls c=>
  cases l<;>simp only[Vh,AO,reduceCtorEq]at h
  grind
theorem jt:∀(m:Nat) {ks:List Kd} {as c:List T} {r:Bool},Rx ks as c=some r ->
 ∃p q,Rx (ks.take m) (as.take m) (c.take m)=some p/\Rx (ks.drop m) (as.drop m) (c.drop m)=some q/\r=(p&&q)
 |0,ks,as,c,r,h=>⟨true,r,by simp[Rx],by simpa using h,by simp⟩|m+1,ks,as,c,r,h=>by
  match ks,as,c,h with
  | [],[],[],h=>simp[Rx]at h;subst h;exact⟨true,true,by simp[Rx],by simp[Rx],rfl⟩|k::ks,a::as,b::c,h=>
   simp only[Rx]at h;split at h
   .rename_i p q y B;cases h;obtain⟨E,q',e,j,rfl⟩:=jt m B;exact⟨p&&E,q',by simp[Rx,y,e],by simpa using j,by cases p<;>rfl⟩
   .cases h
def At(o:Nat)(xs:Array Value)(as:List T):Prop:=∀(c:Nat) x,as[c]?=some x->∃v,xs[o+c]?=some v/\Sc x v
theorem At.drop{o:Nat}{xs:Array Value}{as:List T}(h:At o xs as)(m:Nat):At (o+m) xs (as.drop m):=fun c x e=>by
 rw[Bq]at e;obtain⟨v,q,j⟩:=h _ _ e;exact⟨v,by rw[<-q];congr 1;omega,j⟩
theorem At.take{o:Nat}{xs:Array Value}{as:List T}(h:At o xs as)(m:Nat):At 0 (xs.extract o (o+m)) (as.take m):=fun c x e=>by
 rw[B4]at e;split at e
 .obtain⟨v,j,q⟩:=h _ _ e;have:=(A1.1 j).1;exact⟨v,by rw[<-j,Array.getElem?_extract,AX (by omega)];congr 1;omega,q⟩
 .cases e
theorem xL{P:Program}{w:World}{t:TypeId}{fs:Array Field}{i:TypeInfo}{xs:Array Value}{o:Nat}(c:P.underlying t=some (.struct fs))(hi:P.info? t=some i) :
 (part t xs o).run P w=.ok (.agg (xs.extract o (o+i.size))) w:=by
 simp_all[part,isAgg,run_underlying c,PH,go_sem,Go.sizeOf,typeInfo]
theorem AFw{P:Program}{w:World}{d:Nat}{sub:TypeId->List Kd->Bool}
 (Q:∀t ks as B r (xs ys:Array Value),sub t ks=true->Rx ks as B=some r->At 0 xs as->At 0 ys B->∃fs,P.underlying t=some (.struct fs)/\(Op.equalIn (d+1) t (.agg xs) (.agg ys)).run P w=.ok r w)
 {xs ys:Array Value} {fs:List Field} {ks:List Kd} {as B:List T} {r:Bool} {o:Nat} (e:P1 P sub o fs ks=true) (E:Rx ks as B=some r)
 (hx:At o xs as) (hy:At o ys B):(Op.eqFields (d+1) xs ys fs).run P w=.ok r w:=by
 induction fs generalizing ks as B r o with
 |nil=>
  cases ks<;>simp[P1]at e;cases as<;>cases B<;>simp[Rx]at E;subst E;rfl
 |cons f fs ih=>
  simp only[P1,AF,Cj,beq_iff_eq,bne_iff_ne]at e;obtain⟨⟨h1,h2⟩,e⟩:=e;rcases e with e|e
  .match ks,e with
   |k::ks,e=>
   simp only[AF]at e;obtain⟨O,h4⟩:=e
   match as,B,E with
   |x::as,y::B,E=>
   simp only[Rx]at E;split at E
   .rename_i p q c hq;cases E;obtain⟨vx,X,G⟩:=hx 0 x rfl;obtain⟨vy,Y,H⟩:=hy 0 y rfl;have I:=ih h4 hq (hx.drop 1) (hy.drop 1);simp only[C3]at X Y;have key:∃Z,P.underlying f.type=some Z/\PH Z=false/\(Op.equalIn (d+1) f.type vx vy).run P w=.ok p w:=by
     unfold AYK at O;split at O
     .rename_i k0 h
      match x,y,c with
      |.int k1 a,.int k2 b,c=>
       simp only[eqT]at c;split at c
       .rename_i hk;subst hk;cases c;have J:vx=_:=G;have L:vy=_:=H;subst J L;exact⟨_,h,rfl,run_equalIn_int w d f.type k1 k0 a b h⟩
       .cases c
     .rename_i h
      match x,y,c with
      |.bool a,.bool b,c=>
       simp only[eqT,AD]at c;subst c;have J:vx=_:=G;have L:vy=_:=H;subst J L;exact⟨_,h,rfl,run_equalIn_bool w d f.type a b h⟩
     .rename_i h
      match x,y,c with
      |.str a,.str b,c=>
       simp only[eqT,AD]at c;subst c;have J:vx=_:=G;have L:vy=_:=H;subst J L;refine⟨_,h,rfl,?_⟩;have:=run_equalIn_string (P:=P) w d f.type ⟨a.toArray⟩ ⟨b.toArray⟩ h;rw[this,ByteArray.toList_eq,ByteArray.toList_eq]
     .cases O
    obtain⟨Z,h,hag,j⟩:=key;have hpart:∀(zs:Array Value) v,zs[o]?=some v->(part f.type zs f.offset).run P w=.ok v w:=by
     intro zs v hz;rw[h2];cases Z<;>simp_all[part,isAgg,run_underlying h,PH,go_sem]
    simp only[Op.eqFields];rw[AX h1];simp only[Ak,hpart xs vx X,hpart ys vy Y,j,DZ];cases p with
    |true=>simpa using I|false=>simp
   .cases E
  .split at e
   .rename_i i hi;simp only[AF]at e;obtain⟨O,h4⟩:=e;obtain⟨p,q,c,hq,rfl⟩:=jt i.size E;obtain⟨gs,h,j⟩:=Q _ _ _ _ _ _ _ O c (hx.take i.size) (hy.take i.size);have I:=ih h4 hq (hx.drop i.size) (hy.drop i.size);simp only[Op.eqFields];rw[AX h1,h2];simp only[Ak,xL h hi,j,DZ];cases p with|true=>simpa using I|false=>simp
   .cases e
theorem AJb{P:Program}{w:World}:∀(n d:Nat) t ks as e r (xs ys:Array Value),ABj P n t ks=true->Rx ks as e=some r->At 0 xs as->At 0 ys e ->
 ∃fs,P.underlying t=some (.struct fs)/\(Op.equalIn (d+n+1) t (.agg xs) (.agg ys)).run P w=.ok r w
 |0,_,_,_,_,_,_,_,_,h,_,_,_=>by cases h
 |n+1,d,t,ks,as,e,r,xs,ys,h,q,y,B=>by
  simp only[ABj]at h;split at h
  .rename_i fs j;simp only[AF,BG]at h;have c:P.fieldsOf t=fs:=by simp[Program.fieldsOf,j]
   refine⟨fs,j,?_⟩;rw[show d+(n+1)+1=(d+n+1)+1 from by omega,run_equalIn_struct w (d+n+1) t xs ys (by rw[c];exact j) h.2,c];exact AFw (AJb n d) h.1 q y B
  .cases h
theorem AXc{r:T}{v c:Value}(e:ZV r=false)(h:Sc r v)(j:Sc r c):v=c:=by
 cases r with
 |top=>cases e
 |un=>cases e
 |sl=>exact h.elim|mp=>exact h.elim|_=>exact(Eq.trans (show v=_ from h) (show c=_ from j).symm)
theorem jr{op:BinOp}{b:Bool}{r:T}(h:nE op b=some r):ZV r=false:=by
 unfold nE at h;split at h<;>cases h<;>rfl
theorem AKY{op:BinOp}{k:IntKind}{x y:Int}{r:T}(h:az op k x y=some r):ZV r=false:=by
 unfold az at h;split at h<;>first|(cases h;rfl)|(split at h<;>first|(cases h;done)|(cases h;rfl))|(cases h;done)
theorem ATa{op:BinOp}{k:IntKind}{x y:Int}{r:T}(h:AF4 op k x y=some r):ZV r=false:=by
 unfold AF4 at h;split at h
 .cases h
 .split at h<;>cases h<;>rfl
theorem AM1{op:BinOp}{x y r:T}(h:AJ0 op x y=some r):ZV r=false:=by
 unfold AJ0 at h;split at h
 .grind[ATa,AKY]
 .split at h
  .split at h<;>cases h;rfl
  .cases h;rfl
  .cases h;rfl
  .cases h
 .split at h<;>cases h<;>rfl
 .cases h
theorem AUT{c:Cls}{op:BinOp}{x y:Ent}{r:T}(h:S.bin c op x y=some r):ZV r=false:=by
 unfold St.bin at h;split at h
 .split at h
  .unfold dO at h;split at h<;>first|exact AM1 h|cases h
  .cases h
 .grind[jr]
 .grind[jr]
 grind[jr]
theorem AFY(h:Inv F S g a w){d:Nat}{c:Cls}{op:BinOp}{t:TypeId}{ox oy:Operand}{x y:Opd}(hd:d<F.N)(G:ev (.bin d c op x y) S=some S')(I:yX F.P c t=true)(hox:B9 ox x=true)(hoy:B9 oy y=true)
 (hmx:∀p∈CF ox x,Mt F.A F.P p.1 p.2) (hmy:∀p∈CF oy y,Mt F.A F.P p.1 p.2) :
 ∃v g',(∀w1:World,(do eqGuard op t ox oy (a.eval ox) (a.eval oy);binOp op t (a.eval ox) (a.eval oy):Sem Value).run F.P w1=.ok v w1)/\Inv F S' g' (a.put (some d) v) w:=by
 simp only[ev]at G;split at G
 .rename_i ex ey hrx hry;split at G
  .rename_i r j;have rx:=OA h hrx hox hmx;have ry:=OA h hry hoy hmy;have one:∀{l:AT} {v:Value},Rd F S g w ⟨.one,[l]⟩ v->Bt F S g w (fun _=>False) l v:=by
    rintro l v ⟨vs,h1,h2,_,h4⟩;obtain⟨u,E,Y⟩:=h4 0 _ rfl;subst h1;cases vs with
    |nil=>simp at E|cons v vs=>simp only[AM,AD]at E;subst E;exact Y
   suffices hs:∀w1:World,∃v,(do eqGuard op t ox oy (a.eval ox) (a.eval oy);binOp op t (a.eval ox) (a.eval oy):Sem Value).run F.P w1=.ok v w1/\Sc r v by
    obtain⟨v,h1,h2⟩:=hs w;obtain⟨g',Q⟩:=Ku h hd G h2;refine⟨v,g',fun w1=>?_,Q⟩;obtain⟨v1,h3,h4⟩:=hs w1;rw[h3,AXc (AUT j) h4 h2]
   intro w1;unfold St.bin at j;cases c with
   |num=>
    simp only at j;split at j
    .exact ACn (one rx) (one ry) j
    .cases j
   |bool=>
    simp only at j;split at j
    .rename_i p q;have Z:a.eval ox=.bool p:=one rx;have e2:a.eval oy=.bool q:=one ry;rw[Z,e2];have E:F.P.underlying t=some .bool:=by
      unfold yX at I;split at I<;>simp_all
     have Q:(eqGuard op t ox oy (.bool p) (.bool q)).run F.P w1=.ok () w1:=by cases op<;>simp[eqGuard]
     rw[Ak,Q,DZ];cases op<;>simp[nE]at j
     .subst j;exact⟨_,run_eql_bool w1 t p q E,rfl⟩
     .subst j;exact⟨_,run_neq_bool w1 t p q E,rfl⟩
    .cases j
   |sl=>
    simp only at j;split at j
    .rename_i l;split at j
     .rename_i b B;have e2:a.eval oy=.slice none 0 0:=one ry;rw[e2];have E:∃e,F.P.underlying t=some (.slice e):=by
       unfold yX at I;split at I<;>simp_all
      obtain⟨e,E⟩:=E;have hnil:∃ad n c,a.eval ox=.slice ad n c/\ad.isNone=b:=by
       match l,one rx,B with
       |.t x,hl,B=>
        cases x<;>simp[St.VN]at B;subst B;exact⟨none,0,0,hl,rfl⟩
       |.vw _ e' [],_,B=>simp[St.VN]at B|.vw (.own r' _) e' (_::xs),⟨_,⟨S0,_,hO⟩,_⟩,B=>
        simp only[St.VN,AD]at B;subst B;generalize a.eval ox=v at hO;cases hO with
        |sc X _ _=>exact X.elim|sl=>exact⟨_,_,_,rfl,rfl⟩
       |.vw (.old k) e' (_::xs),hl,B=>
        simp only[St.VN,AD]at B;subst B;have hV:View w (F.R k) (.sl e' (_::xs)) (a.eval ox):=hl;generalize a.eval ox=v at hV;cases hV with
        |sc X=>exact X.elim|sl=>exact⟨_,_,_,rfl,rfl⟩
       |.al r' none,⟨x,u,q1,q2,q3⟩,B=>
        have q3':a.eval ox=u:=q3;obtain⟨u',hu',L⟩:=h.Cq r' _ q1;rw[q2]at hu';cases hu';simp only[St.VN,q1]at B;split at B
        .simp at B;subst B;rename_i H;cases H;cases L with|sc X _ _=>exact⟨none,0,0,q3'.trans X,rfl⟩
        .simp at B;subst B;rename_i H;cases H;cases L with|sc X _ _=>exact X.elim|sl=>exact⟨_,_,_,q3',rfl⟩
        .cases B
       |.al r' (some _),_,B=>simp[St.VN]at B
      obtain⟨ad,n,cp,Z,hb'⟩:=hnil;rw[Z];have Q:(eqGuard op t ox oy (.slice ad n cp) (.slice none 0 0)).run F.P w1=.ok () w1:=by cases op<;>simp[eqGuard]
      rw[Ak,Q,DZ];cases op<;>simp[nE]at j
      .subst j;rw[<-hb'];exact⟨_,Lib.run_eql_slice_nil w1 t e ad n cp 0 0 E,rfl⟩
      .subst j;rw[<-hb'];exact⟨_,run_neq_slice_nil w1 t e ad n cp E,rfl⟩
     .cases j
    .cases j
   |agg ks=>
    simp only at j;split at j
    .rename_i as bs;split at j
     .rename_i as' bs' ha B;split at j
      .rename_i b H;have ea:=ADJ ha;have eb:=ADJ B;subst ea eb;have J:∃fs,F.P.underlying t=some (.struct fs)/\(ABj F.P 4 t ks&&!F.P.eqGuardType F.P.depth t)=true:=by
        unfold yX at I;cases E:F.P.underlying t with
        |none=>simp[E]at I|some dd=>
         rw[E]at I;cases dd<;>first|exact⟨_,rfl,I⟩|simp at I
       obtain⟨fs,E,J⟩:=J;simp only[AF,BG]at J;obtain⟨hf,hgd⟩:=J;have cells:∀{ts:List T} {v:Value},Rd F S g w ⟨.agg,ts.map .t⟩ v->∃xs:Array Value,v=.agg xs/\At 0 xs ts:=by
        rintro ts v ⟨vs,h1,_,_,h4⟩;refine⟨vs.toArray,h1,fun c x hx=>?_⟩;obtain⟨u,E,Y⟩:=h4 c (.t x) (by simp[hx]);exact⟨u,by simpa using E,Y⟩
       obtain⟨xs,Z,hxs⟩:=cells rx;obtain⟨ys,e2,hys⟩:=cells ry;rw[Z,e2];have Q:(eqGuard op t ox oy (.agg xs) (.agg ys)).run F.P w1=.ok () w1:=run_eqGuard_agg w1 op t ox oy xs ys hgd;rw[Ak,Q,DZ];have O:(Op.equalIn 10000 t (.agg xs) (.agg ys)).run F.P w1=.ok b w1:=(AJb 4 9995 _ _ _ _ _ _ _ hf H hxs hys).choose_spec.2;cases op<;>simp[nE]at j
       .subst j;exact⟨.bool b,(by rw[run_eql_struct,O];rfl),rfl⟩
       .subst j;exact⟨.bool !b,(by rw[run_neq_struct,O];rfl),rfl⟩
      .cases j
     .cases j
    .cases j
  .cases G
 .cases G
theorem AKf{ns:List (Option Nat)}{vs:List Value}{i:Nat}{n:Option Nat}(h:ns[i]?=some n):(I7 ns vs)[i]?=some (mkV (shN n) ((vs.drop (UM (ns.take i))).take (Dk n))):=by
 induction ns generalizing vs i with
 |nil=>simp at h|cons m ns c=>
  cases i with
  |zero=>
   simp only[AM,AD]at h;subst h;cases m with
   |none=>cases vs<;>simp[I7,mkV,shN,Dk,UM]
   |some k=>simp[I7,mkV,shN,Dk,UM]
  |succ i=>
   simp only[CA]at h;cases m with
   |none=>simp only[I7,CA,Ix,UM,Dk];rw[c h,DG];rfl|some k=>simp only[I7,CA,Ix,UM,Dk];rw[c h,DG];rfl
theorem AFd(h:Inv F S g a w){d i:Nat}{o:Operand}{x:Opd}(hd:d<F.N)(j:ev (.ext d x i) S=some S')(E:B9 o x=true) :
 ∃v g',(∀w1:World,(Instr.extract (a.eval o) i).run F.P w1=.ok v w1)/\Inv F S' g' (a.put (some d) v) w:=by
 simp only[ev]at j;split at j
 .rename_i s
  match o,E with
  |.tmp t,E=>
   simp only[B9,beq_iff_eq]at E;subst E;split at j
   .rename_i ns cs X;split at j
    .rename_i n hn;split at j
     .rename_i hle;split at j
      .rename_i S1 ls L;obtain⟨_,Y,Z⟩:=h.tms t _ X;have J:Rd F S g w ⟨shN n,((R9 t 0 cs).drop (UM (ns.take i))).take (Dk n)⟩ (mkV (shN n) (((g.tv t).drop (UM (ns.take i))).take (Dk n))):=by
        refine⟨_,rfl,by simp[yC,Z],?_,?_⟩
        .intro x O;have O:=C8 (GB O);obtain⟨c,y⟩:=Bh O;rw[Vm,AO]at y;obtain⟨l,_,q⟩:=y;exact AMr q
        .intro c l q;simp only[B4,Bq]at q ⊢;split at q
         .rename_i y;rw[Vm,AO]at q;obtain⟨l0,H,rfl⟩:=q;have B:S.at (.tmp t (UM (ns.take i)+c))=some l0:=by simp[St.at,X,H]
          obtain⟨v,G,I⟩:=h.Cq _ _ B;exact⟨v,by rw[AX y];exact G,by simpa using AMq rfl B G I⟩
         .cases q
       obtain⟨vs,nf,h4,hi,y,_⟩:=YN h J L;obtain⟨g',Q⟩:=hi.D9 (e:=⟨shN n,ls⟩) j hd y;refine⟨_,g',?_,by rw[<-h4]at Q;exact Q⟩;have G:a.eval (.tmp t)=.tuple (I7 ns (g.tv t)).toArray:=Y;rw[G];have:=AKf (vs:=g.tv t) hn;simp[Instr.extract,this]
      .cases j
     .cases j
    .cases j
   .cases j
 .cases j
theorem xM{P:Program}{w:World}{t:TypeId}{d:TypeDesc}{xs:Array Value}{o:Nat}{v:Value}(c:P.underlying t=some d)(e:PH d=false)(h:xs[o]?=some v):(part t xs o).run P w=.ok v w:=by
 cases d<;>simp_all[part,isAgg,run_underlying c,PH,go_sem]
theorem AR4{fp:Blk}{l:AT}{v:Value}(c:l.plain=true)(h:Bt F S g w fp l v):FJ F g w l v:=by
 match l,h with
 |.t _,h=>exact h|.und,h=>exact h|.vw (.old _) _ _,h=>exact h|.vp (.old _) _,h=>exact h|.bp _ _,h=>exact h|.vw (.own _ _) _ _,_=>cases c
 |.vp (.own _ _) _,_=>cases c
 |.ow _,_=>cases c
 |.al _ _,_=>cases c
 |.ep _ _ _,_=>cases c
 |.fn _ _,_=>cases c
theorem AFe(h:Inv F S g a w){d off f:Nat}{n:Option Nat}{t:TypeId}{fs:Array Field}{fl:Field}{o:Operand}{x:Opd}(hd:d<F.N)(j:ev (.fld d off n x) S=some S')(J:F.P.underlying t=some (.struct fs))(B:fs[f]?=some fl)
 (q:fl.offset=off) (y:JL F.P fl.type n=true) (ho:B9 o x=true) (hm:∀p∈CF o x,Mt F.A F.P p.1 p.2) :
 ∃v g',(∀w1:World,(Instr.field t (a.eval o) f).run F.P w1=.ok v w1)/\Inv F S' g' (a.put (some d) v) w:=by
 simp only[ev]at j;split at j
 .rename_i cs hrx;split at j
  .rename_i Y;obtain⟨vs,h1,L,h3,h4⟩:=OA h hrx ho hm;have hv:a.eval o=.agg vs.toArray:=h1;have O:Cells F S g w ((cs.drop off).take (Dk n)) ((vs.drop off).take (Dk n)) fun _ _=>False:=by
    refine Cells.free (by simp at L;simp[L]) ?_ (fun x hx=>h3 x (C8 (GB hx)));intro c l I;simp only[B4,Bq]at I ⊢;split at I
    .rename_i O;obtain⟨u,J,hok⟩:=h4 _ l I;exact⟨u,by rw[AX O];exact J,hok⟩
    .cases I
   obtain⟨g',hg⟩:=h.D9 (e:=⟨shN n,(cs.drop off).take (Dk n)⟩) j hd O;refine⟨_,g',?_,hg⟩;rw[hv];simp only at L;unfold JL at y;split at y
   .rename_i dsc i H hi;cases n with
    |some k=>
     simp only[AF,beq_iff_eq]at y;obtain⟨hst,hk⟩:=y;subst hk;obtain⟨fs',rfl⟩:∃fs,dsc=.struct fs:=by cases dsc<;>simp[S9]at hst;exact⟨_,rfl⟩
     have Q:vs.toArray.extract off (off+i.size)=((vs.drop off).take i.size).toArray:=by
      simp[Gq]
     simp[Instr.field,run_underlying J,B,q,asAgg,part,isAgg,run_underlying H,G9 hi,Q,mkV,shN,Dk,go_sem]
    |none=>
     simp only[AF,beq_iff_eq,BG]at y;simp only[Dk]at Y;have G:off<vs.length:=by omega
     have E:vs.toArray[off]?=some vs[off]:=by simp[G]
     have X:((vs.drop off).take 1).headD undef=vs[off]:=by
      rw[List.drop_eq_getElem_cons G];rfl
     intro w1;have hp:=xM (P:=F.P) (w:=w1) (xs:=vs.toArray) (o:=off) H y.1 E;have Z:mkV (shN none) ((vs.drop off).take (Dk none))=vs[off]:=X;rw[Z];simp[Instr.field,run_underlying J,B,q,asAgg,hp]
   .cases y
  .cases j
 .cases j
theorem AFr(h:Inv F S g a w){os:List Operand}{xs:List Opd}{es:List Ent}(j:S.rds xs=some es)(c:PI os xs=true)(B:∀p∈Ed os xs,Mt F.A F.P p.1 p.2) :
 es.length=os.length/\∀(i:Nat) e,es[i]?=some e->∃o,os[i]?=some o/\Rd F S g w e (a.eval o):=by
 induction os generalizing xs es with
 |nil=>
  grind[PI,St.rds]
 |cons o os L=>
  cases xs with
  |nil=>simp[PI]at c|cons x xs=>
   simp only[PI,AF]at c;simp only[St.rds]at j;split at j
   .rename_i e G J q;cases j;obtain⟨H,I⟩:=L q c.2 (fun p y=>B p (by simp[Ed,y]));refine⟨by simp[H],fun i E hi=>?_⟩;cases i with|zero=>simp only[AM,AD]at hi;subst hi;exact⟨o,rfl,OA h J c.1 (fun p y=>B p (by simp[Ed,y]))⟩|succ i=>simpa using I i E (by simpa using hi)
   .cases j
theorem wN(h:Inv F S g a w){d fn:Nat}{f:CI}{os:Array Operand}{xs:List Opd}(hd:d<F.N)(q:ev (.NG d f xs) S=some S')(ho:PI os.toList xs=true)(hm:∀p∈Ed os.toList xs,Mt F.A F.P p.1 p.2)(hf:Mt F.A F.P fn f) :
 ∃g',Inv F S' g' (a.put (some d) (.func (.func fn) #[] (os.map a.eval))) w:=by
 simp only[ev]at q;split at q
 .rename_i es J;split at q
  .rename_i j;obtain⟨h1,h2⟩:=AFr h J ho hm;simp only[List.all_eq_true,AF,beq_iff_eq]at j;refine QM h hd q (by simp) ⟨fn,os.map a.eval,rfl,hf,?_,?_⟩
   .simp only[K5];have:(es.flatMap Ent.cs).length=es.length:=by
     clear h1 h2 J q
     induction es with
     |nil=>rfl|cons e es ih=>
      simp only[Ca,List.length_append,List.length_cons];rw[ih (fun x I=>j x (Ax _ I)),(j e (by simp)).1.2];omega
    rw[this,h1];simp
   .intro i l c B hc;have L:∀(es:List Ent),(∀x∈es,x.cs.length=1)->∀(i:Nat) l,(es.flatMap Ent.cs)[i]?=some l->∃e,es[i]?=some e/\e.cs=[l]:=by
     intro es
     induction es with
     |nil=>intro _ i l B;simp at B
     |cons e es ih=>
      intro E i l B;obtain⟨x,I⟩:=List.length_eq_one_iff.1 (E e (by simp));simp only[Ca,I,List.cons_append,List.nil_append]at B;cases i with
      |zero=>simp only[AM,AD]at B;subst B;exact⟨e,rfl,I⟩|succ i=>simpa using ih (fun y hy=>E y (Ax _ hy)) i l (by simpa using B)
    obtain⟨e,X,G⟩:=L es (fun x I=>(j x I).1.2) i l B;obtain⟨o,Y,vs,q1,q2,q3,q4⟩:=h2 i e X;obtain⟨u,hu,Z⟩:=q4 0 l (by simp[G]);have Q:c=a.eval o:=by
     rw[Array.getElem?_map,AO]at hc;obtain⟨o',H,rfl⟩:=hc;rw[<-Array.getElem?_toList]at H;rw[Y]at H;cases H;rfl
    have hpl:=(j e (Ap X)).2 l (by simp[G]);have hsh:a.eval o=u:=by
     have O:vs.length=1:=by rw[q2,G];rfl
     match vs,O with
     | [v0],_=>
      simp only[AM,AD]at hu;subst hu;have:=(j e (Ap X)).1.1;rw[q1];cases hse:e.sh<;>simp[hse,AB3]at this;rfl
    rw[Q,hsh];exact AR4 hpl Z
  .cases q
 .cases q
theorem XM(cs:List Value)(off k:Nat)(cells:Array Value) :
 ((cs.zipIdx k).foldl (fun (xs:Array Value) (p:Value×Nat)=>xs.setIfInBounds (off+p.2) p.1) cells).toList=Dr cells.toList (off+k) cs:=by
 induction cs generalizing k cells with
 |nil=>rfl|cons c cs e=>simp only[List.zipIdx_cons,List.foldl_cons,e,Dr,Array.toList_setIfInBounds];rfl
def Dh(F:Fix)(S:St)(g:Gh)(w:World)(ls:List AT)(vs:List Value):Prop:=
 vs.length=ls.length/\(∀x,AT.ow x∉ls)/\∀(c:Nat) (l:AT),ls[c]?=some l->∃u,vs[c]?=some u/\Bt F S g w (fun _=>False) l u
theorem Dh.set{ls cs:List AT}{vs us:List Value}{o:Nat}(h:Dh F S g w ls vs)(j:Dh F S g w cs us)(c:o+cs.length<=ls.length):Dh F S g w (Dr ls o cs) (Dr vs o us):=by
 obtain⟨e,G,H⟩:=h;obtain⟨y,B,E⟩:=j;have I:=Gj ls o cs c;have q:=Gj vs o us (by omega);refine⟨by simp[OG,e],?_,?_⟩
 .grind[List.getElem?_of_mem,List.mem_of_getElem?]
 grind
theorem ARJ(ls:List AT):H4 ls=false->∀l∈ls,l≠.t .top/\l≠.und:=by
 induction ls with
 |nil=>simp|cons x ls j=>
  intro c l h;cases Ag.1 h with
  |inl e=>subst e;constructor<;>(rintro rfl;simp[H4]at c)
  |inr e=>exact j (by unfold H4 at c;split at c<;>simp_all) l e
theorem ATG(h:Inv F S g a w){e:Ent}{v:Value}{n:Nat}(O:Rd F S g w e v)(G:e.cs.length=n)(Q:GJ e.sh n=true)(Z:H4 e.cs=false):Dh F S g w e.cs v.cells.toList/\v.cells.size=n:=by
 obtain⟨vs,H,y,I,E⟩:=O;have q:∀v∈vs,v.oneCell'=true:=by
  intro u X;obtain⟨c,J⟩:=Bh X;have B:c<e.cs.length:=by rw[<-y];exact(AP.1 J).1
  obtain⟨u',Y,L⟩:=E c e.cs[c] (by simp[B])
  grind[ARJ,List.getElem_mem,AB6]
 have j:=Zg Q (y.trans G) q;rw[H];exact⟨by rw[j];exact⟨y,I,E⟩,by rw[<-Bf,j,y,G]⟩
theorem AIs(h:Inv F S g a w){fs:Array Field}{places:List (Nat×Nat)}(I:∀(i:Nat) f t,fs[i]?=some f->F.P.info? f.type=some t->places[i]?=some (f.offset,t.size)) :
 ∀(ps:List (Nat×Operand)) (qs:List (Nat×Nat×Opd)) (ls ls':List AT) (cells:Array Value),P0 F.P fs ps qs=true->(∀p∈NW ps qs,Mt F.A F.P p.1 p.2)->MX S ls qs=some ls'->Dh F S g w ls cells.toList ->
  ∃cells',Instr.fill (places.toArray[·]?) cells (ps.map fun p=>(p.1,a.eval p.2))=some cells'/\Dh F S g w ls' cells'.toList
 | [],qs,ls,ls',cells,E,_,c,q=>by
  cases qs<;>simp[P0]at E;simp only[MX,AD]at c;subst c;exact⟨cells,rfl,q⟩
 |(i,o)::ps,qs,ls,ls',cells,E,hm,c,q=>by
  match qs,E with
  |(off,n,x)::qs,E=>
   simp only[P0,AF]at E;obtain⟨⟨j,J⟩,L⟩:=E;split at j
   .rename_i f Q;simp only[AF,beq_iff_eq]at j;obtain⟨H,y⟩:=j;split at y
    .rename_i t ht;simp only[beq_iff_eq]at y;simp only[MX]at c;split at c
     .rename_i e he;split at c
      .rename_i hc;obtain⟨c1,c2,c3,c4⟩:=hc;have Y:=OA h he J (fun p X=>hm p (by simp[NW,X]));obtain⟨O,Z⟩:=ATG h Y c1 c2 c3;have B:=q.set O (o:=off) (by omega);have hfold:((a.eval o).cells.zipIdx.foldl (fun cs (p:Value×Nat)=>cs.setIfInBounds (off+p.2) p.1) cells).toList=Dr cells.toList off (a.eval o).cells.toList:=by
        rw[<-Array.foldl_toList,Array.toList_zipIdx];exact XM _ off 0 cells
       rw[<-hfold]at B;obtain⟨cells',hfill,G⟩:=AIs h I ps qs _ _ _ L (fun p X=>hm p (by simp[NW,X])) c B;refine⟨cells',?_,G⟩;simp only[List.map_cons,Instr.fill,BS,I i f t Q ht,H,y];have hle:¬(off+(a.eval o).cells.size>cells.size):=by
        have:=q.1;simp only[Bf]at this;omega
       rw[AU (by simp[Z];omega)];simpa only[BS] using hfill
      .cases c
     .cases c
    .cases y
   .cases j
theorem lT(h:Inv F S g a w){d:Nat}{t:TypeId}{fs:Array Field}{L:List T}{ps:Array (Nat×Operand)}{qs:List (Nat×Nat×Opd)}(X:d<F.N)(c:ev (.build d L qs) S=some S')(hz:Z7 F.P t L=true)
 (hu:F.P.underlying t=some (.struct fs)) (E:fs.toList.all (fun f=>(F.P.info? f.type).isSome)=true) (Y:P0 F.P fs ps.toList qs=true) (hm:∀p∈NW ps.toList qs,Mt F.A F.P p.1 p.2) :
 ∃v g',(∀w1:World,(Instr.build t (ps.map fun (i,x)=>(i,a.eval x))).run F.P w1=.ok v w1)/\Inv F S' g' (a.put (some d) v) w:=by
 simp only[ev]at c;split at c
 .rename_i ls I;obtain⟨i,v,hi,J,_,_,O⟩:=zeroCells (F:=F) (S:=S) (g:=g) (w:=w) hz;have hplaces:∀(l:List Field),l.all (fun f=>(F.P.info? f.type).isSome)=true->∃places,l.mapM (fun f=>(F.P.info? f.type).map fun i=>(f.offset,i.size))=some places /\
   ∀(i:Nat) f t,l[i]?=some f->F.P.info? f.type=some t->places[i]?=some (f.offset,t.size):=by
   intro l
   induction l with
   |nil=>intro _;exact⟨[],rfl,by simp⟩
   |cons f l ih=>
    intro H;simp only[List.all_cons,AF]at H;obtain⟨t,G⟩:=Bj.1 H.1;obtain⟨pl,q,y⟩:=ih H.2;refine⟨(f.offset,t.size)::pl,by simp[List.mapM_cons,G,q],?_⟩;intro i Q t' hi B;cases i with
    |zero=>simp only[AM,AD]at hi;subst hi;rw[G]at B;cases B;rfl
    |succ i=>simpa using y i Q t' (by simpa using hi) B
  obtain⟨places,q,y⟩:=hplaces fs.toList E;obtain⟨cells',hfill,j⟩:=AIs h (fs:=fs) (places:=places) (fun i f t hi G=>y i f t (by simpa using hi) G) ps.toList qs (L.map .t) ls v.cells Y hm I ⟨O.1,by simp,O.2.1⟩;obtain⟨g',Z⟩:=h.D9 (e:=⟨.agg,ls⟩) c X (Cells.free j.1 j.2.2 j.2.1);refine⟨_,g',fun w1=>run_build w1 t _ cells' ?_,by simpa[mkV] using Z⟩;simp only[Program.built,hi,hu,J,q];rw[<-hfill];congr 1;simp
 .cases c
theorem Inv.newRow(h:Inv F S g a w){d:Nat}{x:T}{v:Value}{S0:Blk}(O:d<F.N)(Y:S.D9 d ⟨.one,[.ow x]⟩=some S')(Z:Still w w')(hw:∀b,b<w.heap.size->w'.heap[b]?=w.heap[b]?)(X:Own w' x v S0)
 (hS:∀b,S0 b->w.heap.size<=b\/((¬F.K b)/\(∀r,CG S r->¬g.fp r b)/\∀id,(get S.bx id).isSome->b≠g.β id)):∃g',Inv F S' g' (a.put (some d) v) w':=by
 have L:=h.grow Z hw;refine L.D9 (vs:=[v]) (nf:=fun _=>S0) Y O ⟨rfl,?_,?_⟩
 .intro c l B;cases c with|zero=>simp only[AM,AD]at B;subst B;exact⟨v,rfl,X⟩|succ c=>simp at B
 .intro c y hy;refine⟨fun b j hK=>?_,fun r J b j I=>?_,fun id q j=>?_,fun c' y' hy' Q=>?_⟩
  .rcases hS b j with j|j
   .exact absurd (Nat.lt_of_lt_of_le (h.rlt b hK) h.size) (by omega)
   .exact j.1 hK
  .rcases hS b j with e|e
   .obtain⟨x,hx⟩:=J;obtain⟨u,_,H⟩:=h.Cq r _ hx;exact absurd (Own.lt H b I) (by omega)
   .exact e.2.1 r J I
  .rcases hS _ j with e|e
   .obtain⟨ls,G⟩:=Bj.1 q;obtain⟨⟨E,hE⟩,_⟩:=h.bxs id ls G;exact absurd (A1.1 hE).1 (by omega)
   .exact e.2.2 id q rfl
  .grind
theorem ACP{e:Nat}{xs:List (List T)}{blk off cap:Nat}{arr:Array Value}{E:TypeId}(y:FM w blk arr E e)(h:xs.length<=cap)(q:∀row∈xs,row.length=e)(c:off+cap*e<=arr.size)
 (B:∀i j x,at2 xs i j=some x->∃v,arr[off+i*e+j]?=some v/\Own w x v fun _=>False):Own w (.sl e xs) (.slice (some ⟨blk,off,none⟩) xs.length cap) (fun b=>b=blk):=by
 refine .sl (fun i j=>(arr[off+i*e+j]?).getD undef) (fun _ _ _=>False) rfl h q y c ?_ ?_ (by simp) (by simp) (by simp)
 .grind
 grind
theorem dL{n:Nat}{c:List T}{i j:Nat}{x:T}(h:at2 (rowsOf n c) i j=some x):i<n/\c[j]?=some x:=by
 grind[at2,rowsOf]
theorem Uj{z:Array Value}{n i j:Nat}{v:Value}(c:z[j]?=some v)(hi:i<n):(madeCells z (n*z.size))[i*z.size+j]?=some v:=by
 obtain⟨e,q⟩:=A1.1 c;have h:i*z.size+j<n*z.size:=by
  have:(i+1)*z.size<=n*z.size:=Aj _ hi
  grind[Nat.add_mul]
 grind[Nat.add_comm,Nat.add_mul_mod_self_right,Nat.mod_eq_of_lt,madeCells,Option.some.injEq]
theorem AJ5{v:Value}{x:T}(h:Qi v x=true):Ro x=false:=by
 unfold Qi at h;split at h
 .rename_i y _;cases x<;>first|rfl|(cases y<;>simp[AUu]at h)
 .cases h
theorem ADf{vs:List Value}{j:List T}(h:Yd vs j=true):vs.length=j.length/\∀(c:Nat) x,j[c]?=some x->∃v,vs[c]?=some v/\Own w x v fun _=>False:=by
 induction vs generalizing j with
 |nil=>cases j<;>simp_all[Yd]
 |cons v vs E=>
  cases j with
  |nil=>simp[Yd]at h|cons z j=>
   simp only[Yd,AF,Cj]at h;obtain⟨y,B⟩:=E h.2;refine⟨by simp[y],fun c x q=>?_⟩;cases c with
   |zero=>
    simp only[AM,AD]at q;subst q;refine⟨v,rfl,?_⟩;rcases h.1 with e|e
    .exact .sc (Vy e) ((Vy e).one (AJ5 e)) (by simp)
    .unfold AJI at e;split at e
     .exact .nl (by simp)
     .cases e
   |succ c=>simpa using B c x (by simpa using q)
def ATR(P:Program)(t:TypeId):Array Value×Unit:=(match P.info? t with|some i=>(match i.zero with|some v=>v.cells|none=>#[])|none=>#[],())
theorem mG{P:Program}{t:TypeId}{e:List T}(h:ACl P t e=true):∃i v,P.info? t=some i/\i.zero=some v/\i.size=e.length/\v.cells.size=e.length /\
 ∀(c:Nat) x,e[c]?=some x->∃u,v.cells[c]?=some u/\Own w x u fun _=>False:=by
 unfold ACl at h;split at h
 .rename_i i hi;simp only[AF,beq_iff_eq]at h;obtain⟨j,q⟩:=h;split at j
  .rename_i v E;obtain⟨y,B⟩:=ADf (w:=w) j
   grind
  .cases j
 .cases h
theorem wP(h:Inv F S g a w){d:Nat}{t el:TypeId}{X:List T}{on oc:Operand}{n c:Opd}(hd:d<F.N)(e:ev (.R0 d X n c) S=some S')(he:Fo F.P t X.length=true)(hu:F.P.underlying t=some (.slice el))
 (hz:ACl F.P el X=true) (hon:B9 on n=true) (hoc:B9 oc c=true) (hmn:∀p∈CF on n,Mt F.A F.P p.1 p.2) (hmc:∀p∈CF oc c,Mt F.A F.P p.1 p.2) :
 ∃v w' g',(Instr.makeSlice t (a.eval on) (a.eval oc)).run F.P w=.ok v w'/\Inv F S' g' (a.put (some d) v) w'/\∀b,b<w.heap.size->w'.heap[b]?=w.heap[b]?:=by
 simp only[ev]at e;split at e
 .rename_i k q hn hc;split at e
  .rename_i hcond;obtain⟨rfl,h0,h1⟩:=hcond;obtain⟨kn,Z⟩:=TH h hn hon hmn;obtain⟨kc,Y⟩:=TH h hc hoc hmc;obtain⟨el',ti,H,B,G,hby,hpos⟩:=Ge he;rw[hu]at H;cases H;obtain⟨i,z,hi,O,his,L,I⟩:=mG (w:=World.push w (.cells ((fun z=>madeCells z (q.toNat*ti.size)) (ATR F.P el).1) el (0,0))) hz;rw[B]at hi;cases hi;have J:(ATR F.P el).1=z.cells:=by simp[ATR,B,O]
   rw[J]at I;rw[Z,Y];have hlim:q<=268435456:=h1;have y:=run_make (P:=F.P) w t el ti z hu B O kn kc q q h0 (Int.le_refl _) (by
    have:(ti.bytes:Int)*q<=65536*268435456:=Int.mul_le_mul (by omega) hlim h0 (by omega);omega) (by omega)
   have hw':(w.alloc (.cells (madeCells z.cells (q.toNat*ti.size)) el))=World.push w (.cells (madeCells z.cells (q.toNat*ti.size)) el (0,0)):=rfl;rw[hw']at y;obtain⟨g',hg⟩:=h.newRow (w':=World.push w (.cells (madeCells z.cells (q.toNat*ti.size)) el (0,0))) (v:=.slice (some ⟨w.heap.size,0,none⟩) (rowsOf q.toNat X).length q.toNat) (S0:=fun b=>b=w.heap.size) hd e
    Still.push (fun b Q=>E9 Q)
    (ACP (arr:=madeCells z.cells (q.toNat*ti.size)) (E:=el) (.of MP) (by simp[rowsOf]) (by intro row hr;simp[rowsOf]at hr;rw[hr.2]) (by simp[madeCells,G]) (by
     intro i j x hx;obtain⟨hi,hj⟩:=dL hx;obtain⟨v,hv',hs⟩:=I j x hj;refine⟨v,?_,hs⟩;have:=Uj (n:=q.toNat) hv' hi;rw[L]at this;rw[G,Au];exact this))
    (fun b Q=>.inl (by omega))
   refine⟨_,_,g',y,?_,fun b Q=>E9 Q⟩;simpa[rowsOf] using hg
  .cases e
 .cases e
theorem nq{s:List UInt8}{i j:Nat}{x:T}(h:at2 (J7 s) i j=some x):∃b,s[i]?=some b/\j=0/\x=.int .u8 b.toNat:=by
 grind[at2,J7]
theorem wG(h:Inv F S g a w){d:Nat}{s t:TypeId}{o:Operand}{x:Opd}(hd:d<F.N)(y:ev (.M9 d x) S=some S')(ho:B9 o x=true)(hm:∀p∈CF o x,Mt F.A F.P p.1 p.2)(J:isStr F.P s=true)(H:Q3 F.P t=true) :
 ∃v w' g',(convert s t (a.eval o)).run F.P w=.ok v w'/\Inv F S' g' (a.put (some d) v) w'/\∀b,b<w.heap.size->w'.heap[b]?=w.heap[b]?:=by
 simp only[ev]at y;split at y
 .rename_i str G;have hv:a.eval o=.string ⟨str.toArray⟩:=QP h G ho hm;unfold isStr at J;split at J
  .rename_i Q;unfold Q3 at H;split at H
   .rename_i el X;simp only[AF]at H;obtain⟨c,_⟩:=H;unfold isInt at c;split at c
    .rename_i k O;simp only[decide_eq_true_eq]at c;subst c;have B:=Lib.run_convert_string_bytes (P:=F.P) w s t el ⟨str.toArray⟩ Q X O;have L:(⟨str.toArray⟩:ByteArray).size=str.length:=by simp[ByteArray.size]
     have hge:=grownCap_ge w (⟨str.toArray⟩:ByteArray).size 0 el;have Y:(Lib.bytesCells w el ⟨str.toArray⟩).size=grownCap w (⟨str.toArray⟩:ByteArray).size 0 el:=by
      simp only[Lib.bytesCells,Array.size_append,K5,Array.size_replicate];rw[show (⟨str.toArray⟩:ByteArray).data.size=(⟨str.toArray⟩:ByteArray).size from rfl];generalize (⟨str.toArray⟩:ByteArray).size=n at *;omega
     obtain⟨g',Z⟩:=h.newRow (w':=Lib.bytesWorld w el ⟨str.toArray⟩) (v:=.slice (some ⟨w.heap.size,0,none⟩) (J7 str).length (grownCap w (⟨str.toArray⟩:ByteArray).size 0 el)) (S0:=fun b=>b=w.heap.size) hd y
      (.old (by rw[Lib.bytesWorld_size];omega) rfl rfl (fun b q=>Lib.bytesWorld_at_old w el _ b q)) (fun b q=>Lib.bytesWorld_at_old w el _ b q)
      (ACP (e:=1) (arr:=Lib.bytesCells w el ⟨str.toArray⟩) (E:=el) ⟨_,Lib.bytesWorld_at_new w el ⟨str.toArray⟩,.inr ⟨Ad _,rfl⟩⟩ (by simp[J7];omega)
       (by intro row hr;simp only[J7,D2]at hr;obtain⟨_,_,rfl⟩:=hr;rfl) (by omega) (by
        intro i j x hx;obtain⟨b,q,rfl,rfl⟩:=nq hx;refine⟨.int .u8 b.toNat,?_,.sc rfl rfl (by simp)⟩;have I:i<str.length:=(AP.1 q).1;simp only[Au,Nat.mul_one,C3,Lib.bytesCells];rw[Array.getElem?_append_left (by simpa using I)];simp[q]))
      (fun b q=>.inl (by omega))
     refine⟨_,_,g',by rw[hv];exact B,?_,fun b q=>Lib.bytesWorld_at_old w el _ b q⟩;have:(J7 str).length=(⟨str.toArray⟩:ByteArray).size:=by simp[J7,L]
     rw[this]at Z;exact Z
    .cases c
   .cases H
  .cases J
 .cases y
end
end Lv
