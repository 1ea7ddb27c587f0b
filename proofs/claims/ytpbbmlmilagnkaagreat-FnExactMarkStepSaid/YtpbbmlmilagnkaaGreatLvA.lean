/- The light machine is right about the program's code. -/
import GoSem.Core.Value
import GoSem.Core.Ast
import GoSem.Core.View
import Derived.Calls
import Derived.Laws.CopyRow
import Derived.Laws.IdiomCopy
import GoSem.Dispatch
import Derived.Orders
set_option linter.unusedVariables false
set_option linter.unusedSimpArgs false
set_option linter.unusedSectionVars false
open Array renaming getD_eq_getD_getElem?->Dd,getElem?_eq_some_iff->Aj,getElem?_modify->ET,getElem?_push->Eo
open Bool renaming and_eq_false_iff->GK,and_eq_true->AD,and_true->B9,or_eq_true->B6
open List renaming append_assoc->Bg,getElem?_append->Ge,getElem?_cons_zero->AI,getElem?_eq_some_iff->AJ,getElem?_of_mem->BE,getElem?_set->C9,length_cons->AM,length_nil->AQ,mem_cons_of_mem->Au,mem_of_getElem?->AX
open Nat renaming add_right_cancel_iff->FU,add_zero->CO,le_refl->AT,lt_irrefl->Gr,lt_of_lt_of_le->Az,ne_of_lt->JT
open Option renaming isSome_iff_exists->BG,isSome_map->HG,map_eq_some_iff->AG
open Option.some renaming injEq->AB
open Prod.mk renaming injEq->Ag
@[reducible] def AA.{u} (α:Type u):=Option α
namespace Lv
open Go (IntKind BinOp UnOp)
inductive T where
 |top|un|int(k:IntKind)(n:Int)|bool(b:Bool)|str(s:List UInt8)|nil|np|sl(e:Nat)(xs:List (List T))|mp(ks:List (Int×Int))
inductive Bj where
 |tmp(s c:Nat)|cell(b c:Nat)
 deriving DecidableEq
inductive Src where
 |own(r:Bj)(p:Option (Nat×Nat))|old(k:Nat)
 deriving DecidableEq
inductive Md where
 |v|p|b|o|m
 deriving DecidableEq
inductive Sh where
 |one|agg|tup(ns:List (Option Nat))|ptr(k:Nat)|vw(k:Nat)
inductive Kd where
 |i|b|s
 deriving DecidableEq
inductive Cls where
 |num|bool|sl|agg(ks:List Kd)
 deriving DecidableEq
mutual
inductive Opd where
 |tmp(t:Nat)|k(x:T)|fn(f:Ba)
inductive XOp where
 |mv(d:Nat)(x:Opd)|as(d:Nat)(x:Opd)|pick(d:Nat)(c a b:Opd)|alloc(d:Nat)(zs:List T)|box(d:Nat)(x:Opd)|build(d:Nat)(zs:List T)(parts:List (Nat×Nat×Opd))|Bp(d:Nat)(n:Nat)(zs:List T)(parts:List (Nat×Opd))|ld(d:Nat)(n:Option Nat)(x:Opd)|st(n:Nat)(x v:Opd)|chk(d:Nat)(x:Opd)|bin(d:Nat)(c:Cls)(op:BinOp)(x y:Opd)|un(d:Nat)(op:UnOp)(x:Opd)|cvI(d:Nat)(k:IntKind)(x:Opd)|Je(d:Nat)(x:Opd)|NO(d:Nat)(x:Opd)|Pk(d:Nat)(f:Ba)(caps:List Opd)|Ji(d:Nat)(zs:List T)(n c:Opd)|sub(d:Nat)(e:Nat)(x:Opd)(lo hi:Option Opd)|P2(d:Nat)(x:Opd)(lo hi:Option Opd)|fa(d:Nat)(off:Nat)(x:Opd)|ia(d:Nat)(e:Nat)(x i:Opd)|ix(d:Nat)(x i:Opd)|ext(d:Nat)(x:Opd)(i:Nat)|call(d:Nat)(f:Ba)(args:List Opd)|Dm(d:Nat)(f:Opd)(ms:List Md)(args:List Opd)|len(d:Nat)(x:Opd)|lens(d:Nat)(x:Opd)|app(d:Nat)(e:Nat)(fl:Bool)(x y:Opd)|Oo(d:Nat)(zs:List T)(x n:Opd)|cpy(d:Nat)(e:Nat)(x y:Opd)|mm(d:Nat)(isMax:Bool)(x y:Opd)|mmk(d:Nat)|Oq(d:Nat)(x k:Opd)|N3(x k v:Opd)|AMo(d:Nat)(x:Opd)|bad(d:Option Nat)|drop(ds:List Nat)|RT(ns:List (Bj×Nat))
inductive M9 where
 |nil|op(i:Nat)(g:Option (Nat×Bool))(sf:List Nat)(o:XOp)(rest:M9)|dr(ds:List Nat)(rest:M9)|nl(ns:List (Bj×Nat))(rest:M9)|both(a b:M9)
inductive J0 where
 |skip|region(ops:List (Option (Nat×Bool)×XOp))(EM:List Nat)|SZ(r:M9)(EM:List Nat)|seq(a b:J0)|cond(c:Nat)(kt ke:List Nat)(t e:J0)|block(id:Nat)(b:J0)|loop(b:J0)|exit(id:Nat)|ret|scope(b:J0)|or(a b:J0)|dead
inductive H9 where
 |tmp(t:Nat)|cell(t:Nat)(n:Option Nat)|bx(t:Nat)|vw(t k:Nat)|un(t n:Nat)
inductive Ba where
 |mk(ms:List Md)(rs:List H9)(body:J0)|K9(id:Nat)(ms:List Md)
end
end Lv
namespace Lv
open Go (IntKind BinOp UnOp)
inductive AN where
 |t(x:T)|und|ow(x:T)|al(r:Bj)(sub:Option (Nat×Nat))|ep(r:Bj)(i j:Nat)|vw(s:Src)(e:Nat)(xs:List (List T))|vp(s:Src)(cs:List T)|bp(id off:Nat)|fn(f:Ba)(caps:List AN)
structure Ent where
 sh:Sh
 cs:List AN
structure St where
 tm:List (Nat×Ent)
 bx:List (Nat×List AN)
 pin:List Nat:=[]
inductive V where
 |v(sh:Sh)(cs:List T)|f(xf:Ba)(caps:List V)|p(cs:List T)|b(cs:List T)|o(sh:Sh)(cs:List T)|m(sh:Sh)(cs:List T)
abbrev Rel:=Ba->List V->Sh->List T->List (List T)->Prop
def get{α:Type}:List (Nat×α)->Nat->Option α| [],_=>none|(k,a)::r,s=>if k=s then some a else get r s
def put{α:Type}:List (Nat×α)->Nat->α->List (Nat×α)| [],s,a=>[(s,a)]|(k,b)::r,s,a=>if s=k then (s,a)::r else if s<k then (s,a)::(k,b)::r else (k,b)::put r s a
def Ew{α:Type}(ks:List Nat):List (Nat×α)->List (Nat×α)| []=>[]|(k,b)::r=>if k∈ks then (k,b)::Ew ks r else Ew ks r
def AN.BX:AN->Option Bj|.al r _|.ep r _ _|.vw (.own r _) _ _|.vp (.own r _) _=>some r|_=>none
def AN.Iy:AN->Option Nat|.bp id _=>some id|.al (.cell id _) _|.ep (.cell id _) _ _|.vw (.own (.cell id _) _) _ _|.vp (.own (.cell id _) _) _=>some id|_=>none
def AN.plain:AN->Bool|.t _|.und|.vw (.old _) _ _|.vp (.old _) _|.bp _ _=>true|_=>false
def DS(q:AN->Bool):List AN->List AN| []=>[]|l::ls=>(if q l then .t .top else l)::DS q ls
def IN(q:AN->Bool):List (Nat×Ent)->List (Nat×Ent)| []=>[]|(k,e)::r=>(k,⟨e.sh,DS q e.cs⟩)::IN q r
def IM(q:AN->Bool):List (Nat×List AN)->List (Nat×List AN)| []=>[]|(k,e)::r=>(k,DS q e)::IM q r
def St.kill(S:St)(q:AN->Bool):St:={ S with tm:=IN q S.tm,bx:=IM q S.bx}
def JL(r:Bj)(l:AN):Bool:=l.BX=some r
def EE(r:Bj):AN->Bool|.vw (.own r' _) _ _|.vp (.own r' _) _=>r'=r|_=>false
def Dr(d:Nat)(l:AN):Bool:=match l.BX with|some (.tmp s _)=>s=d|_=>false
def EN(d:Nat):AN->Bool|.fn _ caps=>caps.any fun l=>decide (l.Iy=some d)|l=>decide (l.Iy=some d)
def IY(ks:List Nat):AN->Bool
 |.fn _ caps=>caps.any fun l=>match l.Iy with|some d=>decide (d∉ks)|none=>false
 |l=>match l.Iy with|some d=>decide (d∉ks)|none=>false
def Gg(ks:List Nat)(l:AN):Bool:=
 (match l.BX with|some (.tmp s _)=>decide (s∉ks)|_=>false)||IY ks l
def HH{α:Type}(ks:List Nat):List (Nat×α)->List (Nat×α)| []=>[]|(k,b)::r=>if k∈ks then HH ks r else (k,b)::HH ks r
def Sq(ks:List Nat)(l:AN):Bool:=match l.BX with|some (.tmp s _)=>decide (s∈ks)|_=>false
def St.GP(S:St)(ks:List Nat):St:={ S with tm:=IN (Sq ks) (HH ks S.tm),bx:=IM (Sq ks) S.bx}
def St.clean(S:St)(ks:List Nat):St:={ S with tm:=IN (Gg ks) (Ew ks S.tm),bx:=IM (Gg ks) (Ew ks S.bx)}
def St.at(S:St):Bj->Option AN
 |.tmp s c=>match get S.tm s with|some e=>e.cs[c]?|none=>none
 |.cell b c=>match get S.bx b with|some ls=>ls[c]?|none=>none
def St.BT(S:St)(r:Bj)(l:AN):St:=
 match r with
 |.tmp s c=>match get S.tm s with|some e=>{ S with tm:=put S.tm s ⟨e.sh,e.cs.set c l⟩}|none=>S
 |.cell b c=>match get S.bx b with|some ls=>{ S with bx:=put S.bx b (ls.set c l)}|none=>S
def St.nl0(S:St)(r:Bj)(e:Nat):AN:=match r with|.cell id _=>(if id∈S.pin then .vw (.old id) e [] else .ow (.sl e []))|.tmp _ _=>.ow (.sl e [])
def St.Zh(S:St)(r:Bj)(e:Nat):St:=match S.at r with|some (.t .nil)=>S.BT r (S.nl0 r e)|_=>S
def St.Mi(S:St):List (Bj×Nat)->St| []=>S|(r,e)::ns=>St.Mi (S.Zh r e) ns
def content:T->Option (List (List T))|.nil=>some []|.sl _ xs=>some xs|_=>none
def HD(sub:Option (Nat×Nat))(xs:List (List T)):List (List T):=
 match sub with
 |none=>xs|some (lo,n)=>(xs.drop lo).take n
def Zq(sub:Option (Nat×Nat)):T->T|.sl e xs=>.sl e (HD sub xs)|x=>x
def St.elems(S:St):AN->Option (List (List T))
 |.al r sub=>match S.at r with|some (.ow x)=>(content x).map (HD sub)|_=>none
 |.vw _ _ xs=>some xs|.t .nil=>some []|_=>none
def AN.ali(s c:Nat):AN->AN|.ow _=>.al (.tmp s c) none|l=>l
def NJ(s:Nat):Nat->List AN->List AN|_,[]=>[]|c,l::ls=>l.ali s c::NJ s (c+1) ls
def bj:T->AN|.sl e xs=>.vw (.old 0) e xs|x=>.t x
def St.rd(S:St):Opd->Option Ent
 |.tmp s=>match get S.tm s with|some e=>some ⟨e.sh,NJ s 0 e.cs⟩|none=>none
 |.k x=>some ⟨.one,[bj x]⟩|.fn f=>some ⟨.one,[.fn f []]⟩
def St.rds(S:St):List Opd->Option (List Ent)
 | []=>some []|x::xs=>match S.rd x,S.rds xs with|some e,some es=>some (e::es)|_,_=>none
def St.DJ(S:St)(d:Nat)(e:Ent):Option St:=
 if d∈S.pin then none else match get S.tm d with
  |none=>some { S with tm:=put S.tm d e}
  |some _=>some { S with tm:=put (IN (Dr d) S.tm) d ⟨e.sh,DS (Dr d) e.cs⟩,bx:=IM (Dr d) S.bx}
def names:AN->List Nat
 |.bp id _=>[id]|.fn _ caps=>caps.filterMap fun l=>match l with|.bp id _=>some id|_=>none
 |_=>[]
def OE(l l':AN):Bool:=
 (match l.BX with|some r=>decide (l'.BX=some r)|none=>false)||(names l).any (fun id=>EN id l')||(names l').any (fun id=>EN id l)
def Mq(l l':AN):Bool:=
 (match l.BX with|some r=>decide (l'.BX=some r)|none=>false)||(names l).any (fun id=>EN id l')
def fZ:AN->Bool|.al _ _=>true|_=>false
def KS:List AN->Bool| []=>true|l::ls=>(ls.all fun l'=>!((fZ l||fZ l')&&decide (l.BX=l'.BX)))&&KS ls
def St.out(S:St)(r:Bj):St:=(S.BT r (.t .top)).kill (JL r)
def HN:St->List AN->Option (St×List AN)
 |S,[]=>some (S,[])|S,l::ls=>match l with
  |.al r sub=>match S.at r with
   |some (.ow x)=>match HN (S.out r) ls with|some (S',ls')=>some (S',.ow (Zq sub x)::ls')|none=>none
   |_=>none
  |l=>match HN S ls with|some (S',ls')=>some (S',l::ls')|none=>none
def IP(S:St)(ls:List AN):Option (St×List AN):=if KS ls=true then HN S ls else none
def c8(S:St)(x:Opd)(ls:List AN):Option (St×List AN):=match x with|.tmp s=>if s∈S.pin then some (S,ls) else IP S ls|_=>IP S ls
def M3:T->Bool|.top=>true|_=>false
def Sv:T->Bool|.top=>true|.un=>true|_=>false
def at2(xs:List (List T))(i j:Nat):Option T:=match xs[i]? with|some row=>row[j]?|none=>none
def Src.up:Src->Src|.own r _=>.own r none|s=>s
def Gy(rows:List (List T))(i j:Nat)(x:T):List (List T):=rows.set i ((rows.getD i []).set j x)
def St.pull(S:St)(r:Bj)(i j:Nat):Option St:=
 match S.at r with
 |some (.ow (.sl e rows))=>some ((S.BT r (.ow (.sl e (Gy rows i j .top)))).kill (EE r))|_=>none
def onR(r:Bj):List AN->Bool| []=>false|l::ls=>decide (l.BX=some r)||onR r ls
def Cx:St->List AN->Option (St×List T)
 |S,[]=>some (S,[])|S,l::ls=>match l with
  |.t x=>if M3 x=true then none else match Cx S ls with|some (S',cs)=>some (S',x::cs)|none=>none
  |.al r sub=>match S.at r with
   |some (.ow x)=>match Cx (S.out r) ls with|some (S',cs)=>some (S',Zq sub x::cs)|none=>none
   |_=>none
  |.vw (.own r p) e xs=>match p with
   |none=>match S.at r with
    |some (.ow _)=>match Cx (S.out r) ls with|some (S',cs)=>some (S',.sl e xs::cs)|none=>none
    |_=>none
   |some (i,j)=>if onR r ls=true then none else match S.pull r i j with
    |some S1=>match Cx S1 ls with|some (S',cs)=>some (S',.sl e xs::cs)|none=>none
    |none=>none
  |_=>none
def St.FY(S:St):AN->Option T
 |.t x=>some x|.al r sub=>match S.at r with|some (.ow x)=>some (Zq sub x)|_=>none
 |.vw _ e xs=>some (.sl e xs)|.ow x=>some x|_=>none
def St.FR(S:St):List AN->Option (List T)
 | []=>some []|l::ls=>match S.FY l,S.FR ls with|some x,some xs=>some (x::xs)|_,_=>none
def LI(k:Nat):AN->Option T|.t x=>some x|.vw (.old k') e xs=>if k'=k then some (.sl e xs) else none|_=>none
def EJ(k:Nat):List AN->Option (List T)
 | []=>some []|l::ls=>match LI k l,EJ k ls with|some x,some xs=>some (x::xs)|_,_=>none
def Cg:List AN->Nat| []=>0|.vw (.old k) _ _::_=>k|_::ls=>Cg ls
def DP(k:Nat):T->AN|.sl e xs=>.vw (.old k) e xs|.mp _=>.t .top|x=>.t x
def HK:T->AN|.sl e xs=>.ow (.sl e xs)|.mp ks=>.ow (.mp ks)|.nil=>.ow .nil|x=>.t x
def H2(s:Src):T->AN|.sl e xs=>.vw s e xs|.mp _=>.t .top|x=>.t x
def Kv:List AN->Bool| []=>true|l::ls=>l.BX.isNone&&Kv ls
def AAh(S:St):AN->Option V
 |.t x=>some (.v .one [x])|.vw (.old _) e xs=>some (.v .one [.sl e xs])|.bp id off=>match get S.bx id with|some ls=>if Kv ls=true then (S.FR (ls.drop off)).map .p else none|none=>none
 |.vp (.old _) cs=>some (.p cs)|_=>none
def Ur(S:St):List AN->Option (List V)
 | []=>some []|l::ls=>match AAh S l,Ur S ls with|some x,some xs=>some (x::xs)|_,_=>none
def Ej:Sh->Nat->Bool|.one,n=>n==1|.agg,_=>true|_,_=>false
def Mm:AN->Bool|.t _|.al _ none|.vw (.own _ (some _)) _ _=>true|_=>false
def FV:St->List AN->List T->Option St
 |S,[],[]=>some S|S,l::ls,o::os=>match l with
  |.al r none=>FV (S.BT r (.ow o)) ls os|.vw (.own r (some (i,j))) _ _=>match S.at r with|some (.ow (.sl e rows))=>FV ((S.BT r (.ow (.sl e (Gy rows i j o)))).kill (EE r)) ls os|_=>none
  |.t _=>FV S ls os|_=>none
 |_,_,_=>none
def NK(S:St)(md:Md)(e:Ent):Option V:=
 match md with
 |.v=>match e with
  |⟨.one,[.fn f caps]⟩=>match Ur S caps with|some cs=>some (.f f cs)|none=>none
  |e=>match S.FR e.cs with|some cs=>some (.v e.sh cs)|none=>none
 |.p=>match e with
  |⟨.one,[.bp id off]⟩=>match get S.bx id with
   |some ls=>if Kv ls=true then match S.FR (ls.drop off) with|some cs=>some (.p cs)|none=>none else none
   |none=>none
  |⟨.one,[.vp _ cs]⟩=>some (.p cs)|_=>none
 |.b=>match e with
  |⟨.one,[.bp id 0]⟩=>match get S.bx id with
   |some ls=>match EJ (Cg ls) ls with|some cs=>some (.b cs)|none=>none
   |none=>none
  |_=>none
 |_=>none
def Md.Dy:Md->Bool|.o|.m=>true|_=>false
def FX:List Md->List Ent->List AN|md::ms,e::es=>(if md.Dy=true then e.cs else [])++FX ms es|_,_=>[]
def Gv(S:St):List Md->List Ent->List T->Option (List V)
 | [],[],_=>some []|md::ms,e::es,cs=>match md with
  |.o=>match Gv S ms es (cs.drop e.cs.length) with|some vs=>some (.o e.sh (cs.take e.cs.length)::vs)|none=>none
  |.m=>if e.cs.all Mm=true/\Ej e.sh e.cs.length=true then match Gv S ms es (cs.drop e.cs.length) with|some vs=>some (.m e.sh (cs.take e.cs.length)::vs)|none=>none else none
  |md=>match NK S md e,Gv S ms es cs with|some v,some vs=>some (v::vs)|_,_=>none
 |_,_,_=>none
def De:St->List Md->List Ent->St
 |S,md::ms,e::es=>match md with
  |.b=>match e with
   |⟨.one,[.bp id 0]⟩=>match get S.bx id with
    |some ls=>De { S with bx:=put S.bx id (ls.map fun _=>.t .top)} ms es
    |none=>De S ms es
   |_=>De S ms es
  |_=>De S ms es
 |S,_,_=>S
def P7(S:St)(ms:List Md)(es:List Ent):Option (St×List V):=
 match Cx S (FX ms es) with
 |some (S1,cs)=>match Gv S ms es cs with|some vs=>some (De S1 ms es,vs)|none=>none
 |none=>none
def EI(S0:St):St->List Md->List Ent->List (List T)->Option St
 |S,[],_,[]=>some S|S,md::ms,e::es,outs=>match md with
  |.b=>match e,outs with
   |⟨.one,[.bp id 0]⟩,o::outs=>match get S0.bx id,get S.bx id with
    |some ls,some ls1=>if o.length=ls1.length then EI S0 { S with bx:=put S.bx id (o.map (DP (Cg ls)))} ms es outs else none
    |_,_=>none
   |_,_=>none
  |.m=>match outs with
   |o::outs=>match FV S e.cs o with|some S'=>EI S0 S' ms es outs|none=>none
   |_=>none
  |_=>EI S0 S ms es outs
 |_,_,_,_=>none
def Md.writes:Md->Bool|.v|.p=>false|_=>true
def shares(e e':Ent):Bool:=e.cs.any fun l=>e'.cs.any fun l'=>OE l l'
def LM:List Ent->List Md->List Ent->Bool|prev,md::ms,e::es=>(md.writes&&(prev.any (shares e)||es.any (shares e)))||LM (e::prev) ms es|_,_,_=>false
def Dc:Ba->List Md|.mk ms _ _=>ms|.K9 _ ms=>ms
def ALs(sh:Sh)(cs:List T):Ent:=⟨sh,cs.map HK⟩
def lim:Nat:=268435456
def va:Option Ent->Option T|some ⟨.one,[.t x]⟩=>some x|_=>none
def St.sc(S:St)(x:Opd):Option T:=va (S.rd x)
def St.nat(S:St)(x:Opd):Option Int:=match S.sc x with|some (.int _ n)=>some n|_=>none
def St.AFL(S:St)(d:Int):Option Opd->Option Int|none=>some d|some o=>S.nat o
def St.one(S:St)(x:Opd):Option AN:=match S.rd x with|some ⟨.one,[l]⟩=>some l|_=>none
def LA:Nat:=4611686018427387904
def eqT:Kd->T->T->Option Bool|.i,.int k a,.int k' b=>if k=k' then some (a==b) else none|.b,.bool a,.bool b=>some (a==b)|.s,.str a,.str b=>some (a==b)|_,_,_=>none
def NA:List Kd->List T->List T->Option Bool
 | [],[],[]=>some true|k::ks,a::as,b::bs=>match eqT k a b,NA ks as bs with|some x,some y=>some (x&&y)|_,_=>none
 |_,_,_=>none
def P3:List AN->Option (List T)| []=>some []|.t x::ls=>(P3 ls).map (x::·)|_=>none
def T0(op:BinOp)(k:IntKind)(a b:Int):Option T:=
 match op with
 |.add=>some (.int k (k.wrap (a+b)))|.sub=>some (.int k (k.wrap (a-b)))|.mul=>some (.int k (k.wrap (a*b)))|.quo=>if b=0 then none else some (.int k (k.wrap (a.tdiv b)))|.rem=>if b=0 then none else some (.int k (a.tmod b))|.and=>some (.int k (k.wrap (BitVec.ofInt k.bits a &&& BitVec.ofInt k.bits b).toNat))|.or=>some (.int k (k.wrap (BitVec.ofInt k.bits a |||BitVec.ofInt k.bits b).toNat))|.xor=>some (.int k (k.wrap (BitVec.ofInt k.bits a ^^^ BitVec.ofInt k.bits b).toNat))|.eql=>some (.bool (a==b))|.neq=>some (.bool (a != b))|.lss=>some (.bool (decide (a<b)))|.leq=>some (.bool (decide (a<=b)))|.gtr=>some (.bool (decide (a>b)))|.geq=>some (.bool (decide (a>=b)))|_=>none
def vd(op:BinOp)(k:IntKind)(a b:Int):Option T:=
 if b<0 then none else
 match op with
 |.shl=>some (.int k (k.wrap (a*2 ^ (min b.toNat k.bits))))|.shr=>some (.int k (a.fdiv (2 ^ (min b.toNat k.bits))))|_=>none
def AAf(op:BinOp):T->T->Option T
 |.int k a,.int k' b=>match op with|.shl|.shr=>vd op k a b|_=>if k=k' then T0 op k a b else none
 |.str a,.str b=>match op with|.add=>if a.length+b.length<=LA then some (.str (a++b)) else none|.eql=>some (.bool (a==b))|.neq=>some (.bool (a != b))|_=>none
 |.bool a,.bool b=>match op with|.eql=>some (.bool (a==b))|.neq=>some (.bool (a != b))|_=>none
 |_,_=>none
def St.Pl(S:St):AN->Option Bool
 |.t .nil=>some true|.vw _ _ (_::_)=>some false|.al r none=>match S.at r with|some (.ow .nil)=>some true|some (.ow (.sl _ (_::_)))=>some false|_=>none
 |_=>none
def ZZ(op:BinOp)(b:Bool):Option T:=match op with|.eql=>some (.bool b)|.neq=>some (.bool !b)|_=>none
def Uo(op:BinOp):T->T->Option T|.int k a,.int k' b=>AAf op (.int k a) (.int k' b)|.str a,.str b=>AAf op (.str a) (.str b)|_,_=>none
def St.bin(S:St)(c:Cls)(op:BinOp)(x y:Ent):Option T:=
 match c with
 |.num=>match x,y with|⟨.one,[.t a]⟩,⟨.one,[.t b]⟩=>Uo op a b|_,_=>none
 |.bool=>match x,y with|⟨.one,[.t (.bool a)]⟩,⟨.one,[.t (.bool b)]⟩=>ZZ op (a==b)|_,_=>none
 |.sl=>match x,y with
  |⟨.one,[l]⟩,⟨.one,[.t .nil]⟩=>match S.Pl l with|some b=>ZZ op b|none=>none
  |_,_=>none
 |.agg ks=>match x,y with
  |⟨.agg,as⟩,⟨.agg,bs⟩=>match P3 as,P3 bs with
   |some as,some bs=>match NA ks as bs with|some b=>ZZ op b|none=>none
   |_,_=>none
  |_,_=>none
def unT(op:UnOp):T->Option T
 |.bool b=>match op with|.not=>some (.bool !b)|_=>none
 |.int k n=>match op with|.neg=>some (.int k (k.wrap (0-n)))|_=>none
 |_=>none
def HV(s:List UInt8):List (List T):=s.map fun b=>[.int .u8 b.toNat]
def byteOf:List T->Option UInt8| [.int .u8 n]=>some (UInt8.ofNat n.toNat)|_=>none
def bytesOf:List (List T)->Option (List UInt8)
 | []=>some []|x::xs=>match byteOf x,bytesOf xs with|some b,some bs=>some (b::bs)|_,_=>none
def flat:T->Bool|.sl _ _=>false|.top=>false|.mp _=>false|_=>true
def E3(xs:List (List T)):Bool:=xs.all (·.all flat)
def AAd(e:Nat)(x:T)(ys:List (List T)):T:=match x with|.sl e xs=>.sl e (xs++ys)|_=>.sl e ys
def eOf(e:Nat):T->Bool|.sl e' _=>e'==e|_=>true
def LB(e:Nat)(fl:Bool)(S:St)(l:AN):Option (St×List (List T)):=
 match l with
 |.t (.str s)=>if e=1 then some (S,HV s) else none|.t .nil=>some (S,[])|.vw _ e' xs=>if e'=e/\E3 xs=true then some (S,xs) else none|.al r sub=>match S.at r with
  |some (.ow x)=>match content x with|some xs=>if eOf e x=true then (if fl=true then (if E3 (HD sub xs)=true then some (S,HD sub xs) else none) else some (S.out r,HD sub xs)) else none|none=>none
  |_=>none
 |_=>none
def toEnd(sub:Option (Nat×Nat))(len:Nat):Bool:=match sub with|none=>true|some (lo,n)=>lo+n==len
def Mx(e:Nat)(S:St)(l:AN):Option (St×T×Nat):=
 match l with
 |.t .nil=>some (S,.nil,0)|.al r sub=>match S.at r with
  |some (.ow x)=>match content x with|some xs=>if eOf e x=true/\toEnd sub xs.length=true then some (S.out r,Zq sub x,(HD sub xs).length) else none|none=>none
  |_=>none
 |.vw (.own r (some (i,j))) e' xs=>if e'=e then match S.pull r i j with|some S'=>some (S',.sl e xs,xs.length)|none=>none else none
 |_=>none
def JN(off:Nat):AN->Option AN|.bp id o=>some (.bp id (o+off))|.ep r i j=>some (.ep r i (j+off))|.vp s cs=>some (.vp s (cs.drop off))|_=>none
def HB(r:Bj)(i:Nat):Nat->List T->List AN|_,[]=>[]|j,x::xs=>H2 (.own r (some (i,j))) x::HB r i (j+1) xs
def MI(b:Nat):Nat->List AN->List AN|_,[]=>[]|c,.ow _::ls=>.al (.cell b c) none::MI b (c+1) ls|c,l::ls=>l::MI b (c+1) ls
def St.load(S:St)(n:Nat):AN->Option (List AN)
 |.bp id o=>match get S.bx id with|some ls=>if o+n<=ls.length then some (MI id o ((ls.drop o).take n)) else none|none=>none
 |.ep r i j=>match S.at r with
  |some (.ow (.sl _ xs))=>match xs[i]? with|some cs=>if j+n<=cs.length then some (HB r i j ((cs.drop j).take n)) else none|none=>none
  |_=>none
 |.vp s cs=>if n<=cs.length then some ((cs.take n).map (H2 s.up)) else none|_=>none
def C2{α:Type}:List α->Nat->List α->List α|ls,_,[]=>ls|ls,o,c::cs=>C2 (ls.set o c) (o+1) cs
def GI(b o n:Nat)(l:AN):Bool:=match l.BX with|some (.cell b' c)=>b'=b&&decide (o<=c)&&decide (c<o+n)|_=>false
def F6:List AN->Bool| []=>false|.t .top::_=>true|.und::_=>true|_::ls=>F6 ls
def Rv(n:Nat)(S:St)(ls:List AN):Option (St×List AN):=if n<1048576 then IP S ls else some (S,ls)
def St.Ms(S:St)(n:Nat)(p:AN)(cs:List AN):Option St:=
 match p with
 |.bp id o=>match Rv n S cs with
  |some (S',cs')=>if F6 cs'=true then none else
   let S2:=S'.kill (GI id o cs'.length)
   match get S2.bx id with
   |some ls=>if o+cs'.length<=ls.length then some { S2 with bx:=put S2.bx id (C2 ls o (DS (GI id o cs'.length) cs'))} else none
   |none=>none
  |none=>none
 |.ep r i j=>match Cx S cs with
  |some (S',ts)=>match S'.at r with
   |some (.ow (.sl e xs))=>match xs[i]? with|some row=>if j+ts.length<=row.length then some ((S'.BT r (.ow (.sl e (xs.set i (C2 row j ts))))).kill (EE r)) else none|none=>none
   |_=>none
  |none=>none
 |_=>none
def JE(S:St):List AN->List (Nat×Nat×Opd)->Option (List AN)
 |ls,[]=>some ls|ls,(o,n,x)::ps=>match S.rd x with|some e=>if e.cs.length=n/\Ej e.sh n=true/\F6 e.cs=false/\o+n<=ls.length then JE S (C2 ls o e.cs) ps else none|none=>none
def rowsOf(n:Nat)(zs:List T):List (List T):=List.replicate n zs
def bsK(m n:Nat):St->List (List T)->List (Nat×Opd)->Option (St×List (List T))
 |S,xs,[]=>some (S,xs)|S,xs,(i,x)::ps=>match S.rd x with
  |some e=>if e.cs.length=m/\Ej e.sh e.cs.length=true/\i<n then match Cx S e.cs with
   |some (S',cs)=>bsK m n S' (xs.set i cs) ps|none=>none
   else none
  |none=>none
def nn:Sh->Bool|.one=>true|_=>false
def St.M1:AN->Bool|.bp _ _|.ep _ _ _|.vp _ _=>true|_=>false
def D6(n:Option Nat):Nat:=match n with|some k=>k|none=>1
def shN(n:Option Nat):Sh:=match n with|some _=>.agg|none=>.one
def Ou:List (Option Nat)->Nat| []=>0|n::ns=>D6 n+Ou ns
def St.range(S:St)(len:Nat)(lo hi:Option Opd):Option (Nat×Nat):=
 match S.AFL 0 lo,S.AFL len hi with
 |some a,some b=>if 0<=a/\a<=b/\b<=len then some (a.toNat,b.toNat) else none|_,_=>none
def St.wide(S:St)(e:Nat):AN->Bool
 |.vw _ e' _=>e'==e|.al r _=>match S.at r with|some (.ow x)=>eOf e x|_=>false
 |_=>true
def JJ:List (Int×Int)->Int->Int| [],_=>0|(k,v)::r,n=>if n=k then v else JJ r n
def HC:List (Int×Int)->Int->Int->List (Int×Int)| [],n,m=>[(n,m)]|(k,v)::r,n,m=>if n=k then (k,m)::r else (k,v)::HC r n m
def St.N2(S:St)(x:Opd):Option (Bj×List (Int×Int)):=
 match S.one x with
 |some (.al r none)=>match S.at r with|some (.ow (.mp ks))=>some (r,ks)|_=>none
 |_=>none
def ev(o:XOp)(S:St):Option St:=
 match o with
 |.mv d x=>match S.rd x with|some e=>S.DJ d e|none=>none
 |.as d x=>match S.rd x with
  |some e=>match IP S e.cs with|some (S',cs)=>S'.DJ d ⟨e.sh,cs⟩|none=>none
  |none=>none
 |.pick d c a b=>match S.sc c,S.rd a,S.rd b with|some (.bool t),some ea,some eb=>S.DJ d (if t=true then ea else eb)|_,_,_=>none
 |.alloc d zs=>if d∈S.pin then none else
  let S':=S.kill (fun l=>Dr d l||EN d l)
  some { S' with tm:=put S'.tm d ⟨.one,[.bp d 0]⟩,bx:=put S'.bx d (zs.map .t)}
 |.box d x=>match S.rd x with
  |some e=>match c8 S x e.cs with
   |some (S1,cs)=>if d∈S1.pin\/F6 cs=true\/Ej e.sh e.cs.length=false then none else
    let q:=fun l=>Dr d l||EN d l
    let S':=S1.kill q
    some { S' with tm:=put S'.tm d ⟨.one,[.bp d 0]⟩,bx:=put S'.bx d (DS q cs)}
   |none=>none
  |none=>none
 |.build d zs parts=>match JE S (zs.map .t) parts with|some ls=>S.DJ d ⟨.agg,ls⟩|none=>none
 |.Bp d n zs parts=>if n*zs.length<=16777216 then match bsK zs.length n S (rowsOf n zs) parts with
  |some (S',xs)=>S'.DJ d ⟨.one,[.ow (.sl zs.length xs)]⟩|none=>none
  else none
 |.ld d n x=>match S.one x with
  |some p=>match S.load (D6 n) p with|some ls=>S.DJ d ⟨shN n,ls⟩|none=>none
  |none=>none
 |.st n x v=>match S.one x,S.rd v with|some p,some e=>if e.cs.length=n % 1048576/\Ej e.sh (n % 1048576)=true then S.Ms n p e.cs else none|_,_=>none
 |.chk d x=>match S.one x with|some p=>if St.M1 p=true then S.DJ d ⟨.one,[p]⟩ else none|none=>none
 |.bin d c op x y=>match S.rd x,S.rd y with
  |some ex,some ey=>match S.bin c op ex ey with|some t=>S.DJ d ⟨.one,[.t t]⟩|none=>none
  |_,_=>none
 |.un d op x=>match S.sc x with
  |some a=>match unT op a with|some t=>S.DJ d ⟨.one,[.t t]⟩|none=>none
  |none=>none
 |.cvI d k x=>match S.nat x with|some n=>S.DJ d ⟨.one,[.t (.int k (k.wrap n))]⟩|none=>none
 |.Je d x=>match S.sc x with|some (.str s)=>S.DJ d ⟨.one,[.ow (.sl 1 (HV s))]⟩|_=>none
 |.NO d x=>match S.one x with
  |some l=>match S.elems l with
   |some xs=>match bytesOf xs with|some bs=>S.DJ d ⟨.one,[.t (.str bs)]⟩|none=>none
   |none=>none
  |none=>none
 |.Pk d f caps=>match S.rds caps with|some es=>if (es.all fun e=>nn e.sh&&e.cs.length==1&&e.cs.all AN.plain)=true then S.DJ d ⟨.one,[.fn f (es.flatMap Ent.cs)]⟩ else none|none=>none
 |.Ji d zs n c=>match S.nat n,S.nat c with|some k,some k'=>if k'=k/\0<=k/\k<=lim then S.DJ d ⟨.one,[.ow (.sl zs.length (rowsOf k.toNat zs))]⟩ else none|_,_=>none
 |.P2 d x lo hi=>match S.sc x with
  |some (.str s)=>match S.range s.length lo hi with|some (a,b)=>S.DJ d ⟨.one,[.t (.str ((s.drop a).take (b-a)))]⟩|none=>none
  |_=>none
 |.sub d e x lo hi=>match S.one x with
  |some l=>match if S.wide e l=true then S.elems l else none with
   |some xs=>match S.range xs.length lo hi with
    |some (a,b)=>match l with|.al r none=>S.DJ d ⟨.one,[.al r (some (a,b-a))]⟩|.al r (some (lo0,_))=>S.DJ d ⟨.one,[.al r (some (lo0+a,b-a))]⟩|.vw s e' _=>S.DJ d ⟨.one,[.vw s.up e' ((xs.drop a).take (b-a))]⟩|l=>S.DJ d ⟨.one,[l]⟩
    |none=>none
   |none=>none
  |none=>none
 |.fa d off x=>match S.one x with
  |some p=>match JN off p with|some q=>S.DJ d ⟨.one,[q]⟩|none=>none
  |none=>none
 |.ia d e x i=>match S.one x,S.nat i with
  |some l,some n=>match S.elems l with
   |some xs=>if S.wide e l=true/\0<=n/\n<xs.length then match l with
    |.al r none=>S.DJ d ⟨.one,[.ep r n.toNat 0]⟩|.al r (some (lo,_))=>S.DJ d ⟨.one,[.ep r (lo+n.toNat) 0]⟩|.vw s _ _=>S.DJ d ⟨.one,[.vp s.up (xs.getD n.toNat [])]⟩|_=>none
    else none
   |none=>none
  |_,_=>none
 |.ix d x i=>match S.sc x,S.nat i with|some (.str s),some n=>if 0<=n/\n<s.length then S.DJ d ⟨.one,[.t (.int .u8 (s.getD n.toNat 0).toNat)]⟩ else none|_,_=>none
 |.ext d x i=>match x with
  |.tmp s=>match get S.tm s with
   |some ⟨.tup ns,cs⟩=>match ns[i]? with
    |some n=>
     let o:=Ou (ns.take i)
     if o+D6 n<=cs.length then match IP S (((NJ s 0 cs).drop o).take (D6 n)) with|some (S',ls)=>S'.DJ d ⟨shN n,ls⟩|none=>none
     else none
    |none=>none
   |_=>none
  |_=>none
 |.lens d x=>match S.sc x with|some (.str s)=>S.DJ d ⟨.one,[.t (.int .i64 s.length)]⟩|_=>none
 |.len d x=>match S.one x with
  |some l=>match S.elems l with|some xs=>S.DJ d ⟨.one,[.t (.int .i64 xs.length)]⟩|none=>none
  |none=>none
 |.app d e fl x y=>match S.one x,S.one y with
  |some lx,some ly=>match LB e fl S ly with
   |some (S1,ys)=>match Mx e S1 lx with|some (S2,b,n)=>if n+ys.length<=lim then S2.DJ d ⟨.one,[.ow (AAd e b ys)]⟩ else none|none=>none
   |none=>none
  |_,_=>none
 |.Oo d zs x n=>match S.one x,S.nat n with
  |some lx,some k=>if 0<=k/\k<=lim then match Mx zs.length S lx with
   |some (S2,b,n)=>if n+k.toNat<=lim then S2.DJ d ⟨.one,[.ow (AAd zs.length b (rowsOf k.toNat zs))]⟩ else none|none=>none
   else none
  |_,_=>none
 |.cpy d e x y=>match S.one x,S.one y with
  |some (.al r none),some ly=>match S.at r,S.elems ly with
   |some (.ow (.sl e' xs)),some ys=>
    if e'=e/\S.wide e ly=true/\E3 ys=true/\E3 xs=true/\xs.isEmpty=false
    then ((S.BT r (.ow (.sl e (ys.take xs.length++xs.drop ys.length)))).kill (EE r)).DJ d ⟨.one,[.t (.int .i64 (min ys.length xs.length:Nat))]⟩ else none
   |_,_=>none
  |_,_=>none
 |.mm d isMax x y=>match S.sc x,S.sc y with|some (.int k a),some (.int k' b)=>if k'=k then S.DJ d ⟨.one,[.t (.int k (if isMax=true then (if b>a then b else a) else (if b<a then b else a)))]⟩ else none|_,_=>none
 |.mmk d=>S.DJ d ⟨.one,[.ow (.mp [])]⟩|.Oq d x k=>match S.N2 x,S.sc k with|some (_,ks),some (.int .i64 n)=>S.DJ d ⟨.one,[.t (.int .i64 (JJ ks n))]⟩|_,_=>none
 |.N3 x k v=>match S.N2 x,S.sc k,S.sc v with|some (r,ks),some (.int .i64 n),some (.int .i64 m)=>some ((S.BT r (.ow (.mp (HC ks n m)))).kill (EE r))|_,_,_=>none
 |.AMo d x=>match S.N2 x with|some (_,ks)=>S.DJ d ⟨.one,[.t (.int .i64 ks.length)]⟩|none=>none
 |.bad _=>none|.drop ds=>some (S.GP ds)|.RT ns=>some (S.Mi ns)|.call _ _ _=>none|.Dm _ _ _ _=>none
def ER(o:XOp)(S:St):Option (Nat×Ba×List Ent):=
 match o with
 |.call d f args=>match S.rds args with|some es=>some (d,f,es)|none=>none
 |.Dm d x ms args=>match S.one x,S.rds args with|some (.fn f caps),some es=>if Dc f=ms then some (d,f,es++caps.map (fun l=>⟨.one,[l]⟩)) else none|_,_=>none
 |_=>none
def YI(S:St)(e:Ent):Option Nat:=
 match e with
 |⟨.one,[.bp id _]⟩=>match get S.bx id with|some ls=>if (EJ (Cg ls) ls).isSome=true then some (Cg ls) else none|none=>none
 |e=>if (EJ (Cg e.cs) e.cs).isSome=true then some (Cg e.cs) else none
def pre(f:Ba)(es:List Ent)(S:St):Option (St×List V):=if LM [] (Dc f) es=true then none else P7 S (Dc f) es
def YJ(f:Ba)(S0:St)(es:List Ent)(k:Nat):Option Nat:=
 match es[k]? with
 |some e=>if (Dc f)[k]?=some .p then none else YI S0 e|none=>none
def Ll(S:St)(d:Nat)(ls:List AN):Option St:=
 if d∈S.pin then none else
  let S2:=S.kill (fun l=>Dr d l||EN d l)
  some { S2 with tm:=put S2.tm d ⟨.one,[.bp d 0]⟩,bx:=put S2.bx d ls}
def post(d:Nat)(f:Ba)(es:List Ent)(S0 S:St)(sh:Sh)(cs:List T)(outs:List (List T)):Option St:=
 match EI S0 S (Dc f) es outs with
 |some S'=>match sh with
  |.ptr k=>match YJ f S0 es k with|some lab=>Ll S' d (cs.map (DP lab))|none=>none
  |.vw k=>match YJ f S0 es k with|some lab=>S'.DJ d ⟨.one,cs.map (DP lab)⟩|none=>none
  |sh=>S'.DJ d (ALs sh cs)
 |none=>none
def XOp.XN:XOp->Option Nat|.mv d _|.as d _|.pick d _ _ _|.alloc d _|.box d _|.build d _ _|.Bp d _ _ _|.ld d _ _|.chk d _|.bin d _ _ _ _|.un d _ _|.cvI d _ _|.Je d _|.NO d _|.Pk d _ _|.Ji d _ _ _|.sub d _ _ _ _|.P2 d _ _ _|.fa d _ _|.ia d _ _ _|.ix d _ _|.ext d _ _|.call d _ _|.Dm d _ _ _|.len d _|.lens d _|.app d _ _ _ _|.Oo d _ _ _|.cpy d _ _ _|.mm d _ _ _|.mmk d|.Oq d _ _|.AMo d _=>some d|.st _ _ _=>none|.N3 _ _ _=>none|.bad d=>d|.drop _=>none|.RT _=>none
def JB(o:XOp)(S:St):Option St:=match o.XN with|some d=>S.DJ d ⟨.one,[.und]⟩|none=>some S
def wanted(S:St):Option (Nat×Bool)->Option Bool
 |none=>some true|some (s,want)=>match get S.tm s with|some ⟨.one,[.t (.bool b)]⟩=>some (b==want)|some ⟨.one,[.und]⟩=>some false|_=>none
def opK(Rn:Rel)(o:XOp)(S:St)(K:St->Prop):Prop:=
 (∃S',ev o S=some S'/\K S') \/
 (∃d f es S1 vs sh cs outs S2,ER o S=some (d,f,es)/\pre f es S=some (S1,vs)/\Rn f vs sh cs outs/\post d f es S S1 sh cs outs=some S2/\K S2)
def vO(Rn:Rel):List (Option (Nat×Bool)×XOp)->St->(St->Prop)->Prop
 | [],S,K=>K S|(g,o)::r,S,K=>∃b,wanted S g=some b /\
  ((b=true/\opK Rn o S (fun S'=>vO Rn r S' K))\/(b=false/\∃S',JB o S=some S'/\vO Rn r S' K))
def XOp.wr:XOp->Option Opd|.app _ _ _ x _|.Oo _ _ x _|.cpy _ _ x _|.N3 x _ _=>some x|_=>none
def HT(l:AN):List Md->List Ent->Bool|md::ms,e::es=>(!md.writes||e.cs.all fun l'=>!Mq l' l)&&HT l ms es|_,_=>true
def St.KB(S:St):AN->Bool
 |.bp id _=>(get S.bx id).isSome|.ep _ _ _=>true|.vp _ cs=>!cs.isEmpty|.al r _=>match S.at r with|some (.ow x)=>!Sv x|_=>false
 |.vw (.own _ _) _ _=>true|.t .nil=>true|_=>false
def O3(o:XOp)(S:St)(l:AN):Bool:=
 S.KB l&&match o with
  |.st _ x _=>match S.one x with|some (.bp id _)=>!(names l).contains id|some (.ep r _ _)=>decide (l.BX≠some r)|_=>false
  |o=>match ER o S with
   |some (_,f,es)=>HT l (Dc f) es|none=>match o.wr with
    |some y=>match S.one y with|some lt=>l.BX.isNone||decide (l.BX≠lt.BX)|none=>true
    |none=>true
def HM(o:XOp)(S:St):List Nat->Bool
 | []=>true|s::ss=>(match S.one (.tmp s) with|some l=>O3 o S l|none=>false)&&HM o S ss
def runK(Rn:Rel):M9->St->(St->Prop)->Prop
 |.nil,S,K=>K S|.op _ g sf o rest,S,K=>∃b,wanted S g=some b /\
  ((b=true/\HM o S sf=true/\opK Rn o S (fun S'=>runK Rn rest S' K))\/(b=false/\∃S',JB o S=some S'/\runK Rn rest S' K))
 |.dr ds rest,S,K=>runK Rn rest (S.GP ds) K|.nl ns rest,S,K=>runK Rn rest (S.Mi ns) K|.both a b,S,K=>runK Rn a S K/\runK Rn b S K
inductive Ex where
 |n|x(id:Nat)|r
def zm(body:St->(Ex->St->Prop)->Prop):Nat->St->(Ex->St->Prop)->Prop
 |0,_,_=>False|n+1,S,Q=>body S (fun e S'=>match e with|.n=>zm body n S' Q|e=>Q e S')
def wp(Rn:Rel):J0->St->(Ex->St->Prop)->Prop
 |.skip,S,Q=>Q .n S|.region ops EM,S,Q=>vO Rn ops S (fun S'=>∃ks,Q .n (S'.clean ks))|.SZ r EM,S,Q=>runK Rn r S (fun S'=>∃ks,Q .n (S'.clean ks))|.seq a b,S,Q=>wp Rn a S (fun e S'=>match e with|.n=>wp Rn b S' Q|e=>Q e S')
 |.cond c kt ke t e,S,Q=>∃b,S.sc (.tmp c)=some (.bool b)/\∃ks,if b=true then wp Rn t (S.clean ks) Q else wp Rn e (S.clean ks) Q|.block id b,S,Q=>wp Rn b S (fun e S'=>match e with|.x i=>if i=id then Q .n S' else Q (.x i) S'|e=>Q e S')
 |.loop b,S,Q=>∃n,zm (wp Rn b) n S Q|.exit id,S,Q=>Q (.x id) S|.ret,S,Q=>Q .r S|.scope b,S,Q=>wp Rn b S Q|.or a b,S,Q=>wp Rn a S Q\/wp Rn b S Q|.dead,_,_=>False
def K3(i:Nat):List V->Option (List AN)| []=>some []|.v .one [x]::vs=>(K3 i vs).map (DP i x::·)|.p cs::vs=>(K3 i vs).map (.vp (.old i) cs::·)|_::_=>none
def initK:Nat->List Md->List V->St->Option St
 |_,[],[],S=>some S|i,.v::ms,.v sh cs::vs,S=>initK (i+1) ms vs { S with tm:=put S.tm i ⟨sh,cs.map (DP i)⟩}
 |i,.v::ms,.f xf caps::vs,S=>match K3 i caps with
  |some ls=>initK (i+1) ms vs { S with tm:=put S.tm i ⟨.one,[.fn xf ls]⟩}
  |none=>none
 |i,.p::ms,.p cs::vs,S=>initK (i+1) ms vs { S with tm:=put S.tm i ⟨.one,[.vp (.old i) cs]⟩}
 |i,.b::ms,.b cs::vs,S=>initK (i+1) ms vs { S with tm:=put S.tm i ⟨.one,[.bp i 0]⟩,bx:=put S.bx i (cs.map (DP i)),pin:=i::S.pin}
 |i,.o::ms,.o sh cs::vs,S=>initK (i+1) ms vs { S with tm:=put S.tm i ⟨sh,cs.map HK⟩}
 |i,.m::ms,.m sh cs::vs,S=>if Ej sh cs.length=true then initK (i+1) ms vs { S with tm:=put S.tm i ⟨sh,cs.map HK⟩,pin:=i::S.pin} else none
 |_,_,_,_=>none
def JA:List H9->St->Option (List (Option Nat)×List AN)
 | [],_=>some ([],[])|.tmp t::rs,S=>match S.rd (.tmp t),JA rs S with
  |some e,some (ns,ls)=>if Ej e.sh e.cs.length=true then some ((match e.sh with|.one=>none|_=>some e.cs.length)::ns,e.cs++ls) else none
  |_,_=>none
 |.cell t n::rs,S=>match S.one (.tmp t) with
  |some (.bp id o)=>match S.load (D6 n) (.bp id o),JA rs S with|some ls',some (ns,ls)=>some (n::ns,ls'++ls)|_,_=>none
  |_=>none
 |.bx _::_,_=>none|.vw _ _::_,_=>none|.un _ _::_,_=>none
def pH:List (Option Nat)->Sh| [none]=>.one| [some _]=>.agg|ns=>.tup ns
def KJ:List AN->Bool
 | []=>true|l::ls=>(match l with|.t x=>!M3 x|.vw (.old _) _ _=>true|_=>false)&&KJ ls
def UH(rs:List H9)(S:St):Option (St×Sh×List T):=
 match rs with
 | [.bx t]=>match S.one (.tmp t) with
  |some (.bp id 0)=>match get S.bx id with
   |some ls=>if id∈S.pin then none else match EJ (Cg ls) ls with|some cs=>some (S,.ptr (Cg ls),cs)|none=>none
   |none=>none
  |_=>none
 | [.vw t k]=>match S.one (.tmp t) with
  |some (.vw (.old k') e xs)=>if k'=k then some (S,.vw k,[.sl e xs]) else none|some (.t .nil)=>some (S,.vw k,[.nil])|some (.al r sub)=>match S.at r with|some (.ow x)=>some (S.out r,.vw k,[Zq sub x])|_=>none
  |_=>none
 |.un t n::r::rs=>match S.one (.tmp t) with
  |some (.bp id o)=>match S.load n (.bp id o) with
   |some ls'=>if KJ ls'=true then match JA (r::rs) S with
    |some (ns,ls)=>match Cx S ls with|some (S',cs)=>some (S',.tup (some n::ns),List.replicate n .un++cs)|none=>none
    |none=>none
    else none
   |none=>none
  |_=>none
 |rs=>match JA rs S with
  |some (ns,ls)=>match Cx S ls with|some (S',cs)=>some (S',pH ns,cs)|none=>none
  |none=>none
def owT:AN->Option T|.ow x=>some x|.t x=>if M3 x=true then none else some x|_=>none
def UG:List AN->Option (List T)
 | []=>some []|l::ls=>match owT l,UG ls with|some x,some xs=>some (x::xs)|_,_=>none
def D3:Nat->List Md->St->Option (List (List T))
 |_,[],_=>some []|i,.b::ms,S=>match get S.bx i,D3 (i+1) ms S with|some ls,some os=>if i∈S.pin then (EJ i ls).map (·::os) else none|_,_=>none
 |i,.m::ms,S=>match get S.tm i,D3 (i+1) ms S with|some e,some os=>if i∈S.pin/\Ej e.sh e.cs.length=true then (UG e.cs).map (·::os) else none|_,_=>none
 |i,_::ms,S=>D3 (i+1) ms S
def fin(ms:List Md)(rs:List H9)(S:St)(sh:Sh)(cs:List T)(outs:List (List T)):Prop:=
 ∃S',UH rs S=some (S',sh,cs)/\D3 0 ms S'=some outs
def Ey:List Md->List V->List (List T)->Bool| [],[],[]=>true|.b::ms,.b cs::vs,o::os=>o.length==cs.length&&Ey ms vs os|.b::_,_,_=>false|.m::ms,_::vs,_::os=>Ey ms vs os|.v::ms,_::vs,os=>Ey ms vs os|.p::ms,_::vs,os=>Ey ms vs os|.o::ms,_::vs,os=>Ey ms vs os|_,_,_=>false
def Tf(id:Nat)(vs:List V)(sh:Sh)(cs:List T)(outs:List (List T)):Prop:=
 id≠1/\if id % 2=0 then
  ∃x xs y ys i,vs=[.o .one [x],.v .one [.int .i64 i],.v .one [y]]/\content x=some xs/\eOf (id / 2) x=true/\content y=some ys/\eOf (id / 2) y=true/\E3 xs=true/\E3 ys=true/\0<=i/\i.toNat<=xs.length/\ys≠[]/\xs.length+ys.length<=lim /\
   sh=.one/\cs=[.sl (id / 2) (xs.take i.toNat++ys++xs.drop i.toNat)]/\outs=[]
 else
  ∃xs i j,vs=[.o .one [.sl (id / 2) xs],.v .one [.int .i64 i],.v .one [.int .i64 j]]/\E3 xs=true/\0<=i/\i<j/\j<=xs.length /\
   sh=.one/\cs=[.sl (id / 2) (xs.take i.toNat++xs.drop j.toNat)]/\outs=[]
def Rj(Rn:Rel):Ba->List V->Sh->List T->List (List T)->Prop
 |.mk ms rs body,vs,sh,cs,outs=>∃S0,initK 0 ms vs ⟨[],[],[]⟩=some S0 /\
  wp Rn body S0 (fun e S=>match e with|.x _=>False|_=>fin ms rs S sh cs outs)/\Ey ms vs outs=true
 |.K9 id _,vs,sh,cs,outs=>Tf id vs sh cs outs
def HE:Rel:=fun f vs sh cs outs=>∀Rn:Rel,(∀f vs sh cs outs,Rj Rn f vs sh cs outs->Rn f vs sh cs outs)->Rn f vs sh cs outs
end Lv
namespace Lv
open Go
abbrev Blk:=Nat->Prop
def Sc:T->Value->Prop|.top,_=>True|.un,v=>v.oneCell'=true|.int k n,v=>v=.int k n|.bool b,v=>v=.bool b|.str s,v=>v=.string ⟨s.toArray⟩|.nil,v=>v=.slice none 0 0|.np,v=>v=.pointer none|.sl _ _,_=>False|.mp _,_=>False
structure Still(w w':World):Prop where
 size:w.heap.size<=w'.heap.size
 os:w'.os=w.os
 output:w'.output=w.output
 frozen:∀a,a.block<w.heap.size->w'.frozen? a=w.frozen? a
theorem Still.refl{w:World}:Still w w:=⟨AT _,rfl,rfl,fun _ _=>rfl⟩
theorem Still.trans{w w' w2:World}(h:Still w w')(h':Still w' w2):Still w w2:=
 ⟨Nat.le_trans h.size h'.size,h'.os.trans h.os,h'.output.trans h.output,fun a ha=>(h'.frozen a (Az ha h.size)).trans (h.frozen a ha)⟩
theorem Still.drawn{w:World}(n:Nat):Still w { w with drawn:=n}:=⟨AT _,rfl,rfl,fun _ _=>rfl⟩
theorem Still.alloc{w:World}{o:Obj}:Still w { w with heap:=w.heap.push o}:=by
 refine⟨by simp,rfl,rfl,fun a h=>?_⟩;unfold World.frozen?;simp[Eo,JT h]
theorem Still.old{w w':World}(hs:w.heap.size<=w'.heap.size)(ho:w'.os=w.os)(hp:w'.output=w.output)(hw:∀b,b<w.heap.size->w'.heap[b]?=w.heap[b]?):Still w w':=by
 refine⟨hs,ho,hp,fun a h=>?_⟩;unfold World.frozen?;rw[hw _ h]
theorem Still.setRow{w:World}{b:Nat}{row:Array Value}:Still w (w.setRow b row):=by
 refine⟨by simp[World.setRow],rfl,rfl,fun a _=>?_⟩
 grind[World.frozen?,World.setRow]
def D7(w:World)(blk:Nat)(arr:Array Value)(E:TypeId)(e:Nat):Prop:=∃fr:Nat×Nat,w.heap[blk]?=some (.cells arr E fr)/\(fr.2=0\/arr.size<=fr.1/\e=1)
theorem D7.of{w:World}{blk:Nat}{arr:Array Value}{E:TypeId}{e:Nat}(h:w.heap[blk]?=some (.cells arr E (0,0))):D7 w blk arr E e:=⟨_,h,.inl rfl⟩
theorem D7.cell{e:Nat}{w:World}{blk:Nat}{arr:Array Value}{E:TypeId}(h:D7 w blk arr E e)(o:Nat):w.cell? ⟨blk,o,none⟩=arr[o]?:=by
 obtain⟨fr,h,_⟩:=h;simp[World.cell?,h]
theorem D7.lt{e:Nat}{w:World}{blk:Nat}{arr:Array Value}{E:TypeId}(h:D7 w blk arr E e):blk<w.heap.size:=by
 obtain⟨fr,h,_⟩:=h;exact(Aj.1 h).1
theorem D7.same{e:Nat}{w w':World}{blk:Nat}{arr:Array Value}{E:TypeId}(h:D7 w blk arr E e)(hw:w'.heap[blk]?=w.heap[blk]?):D7 w' blk arr E e:=by
 obtain⟨fr,h,h2⟩:=h;exact⟨fr,hw.trans h,h2⟩
theorem D7.set{e:Nat}{w:World}{blk:Nat}{arr new:Array Value}{E:TypeId}(h:D7 w blk arr E e)(hs:new.size=arr.size):D7 (w.setRow blk new) blk new E e:=by
 obtain⟨fr,h,h2⟩:=h;refine⟨fr,?_,by rw[hs];exact h2⟩;simp[World.setRow,ET,h]
theorem D7.ALM{e:Nat}{w:World}{blk:Nat}{arr:Array Value}{E:TypeId}(h:D7 w blk arr E e){o:Nat}(ho:o<arr.size):w.frozen? ⟨blk,o,none⟩=false:=by
 obtain⟨fr,h,h2⟩:=h
 grind[World.frozen?,Bool.and_eq_false_iff,decide_eq_false_iff_not]
theorem fj{α:Type}(xs:Array α)(i:Nat)(f g:α->α)(h:∀x,xs[i]?=some x->f x=g x):xs.modify i f=xs.modify i g:=by
 grind
theorem pD{e:Nat}{w:World}{blk o:Nat}{arr:Array Value}{E:TypeId}{v:Value}(h:D7 w blk arr E e):w.setCell ⟨blk,o,none⟩ v=w.setRow blk (arr.setIfInBounds o v):=by
 obtain⟨fr,h,_⟩:=h
 grind[World.setCell,World.setRow,fj]
theorem setRow_setRow{w:World}{blk:Nat}{x y:Array Value}:(w.setRow blk x).setRow blk y=w.setRow blk y:=by
 unfold World.setRow;congr 1
 grind
theorem Rp{blk e:Nat}{E:TypeId}:∀(vs:List Value) (o:Nat) (arr:Array Value) (w:World),D7 w blk arr E e->o+vs.length<=arr.size ->
 w.setCells blk o vs=w.setRow blk (arr.toList.take o++vs++arr.toList.drop (o+vs.length)).toArray
 | [],o,arr,w,h,_=>by
  obtain⟨fr,h,_⟩:=h;simp only[World.setCells,List.append_nil,AQ,CO,List.take_append_drop,Array.toArray_toList];exact(setRow_self w blk arr E fr h).symm
 |v::r,o,arr,w,h,hl=>by
  simp only[AM]at hl;have hlt:o<arr.size:=by omega
  rw[World.setCells,pD h,Rp r (o+1) (arr.setIfInBounds o v) _ (h.set (by simp)) (by simp;omega),setRow_setRow];congr 2;simp only[Array.toList_setIfInBounds,AM];rw[List.set_eq_take_append_cons_drop,if_pos (by simpa using hlt)];have h1:(arr.toList.take o).length=o:=by simp;omega
  rw[List.take_append,List.drop_append,h1];simp only[show o+1-o=1 from by omega,List.take_succ_cons,List.take_zero];rw[List.take_of_length_le (by omega),List.drop_eq_nil_of_le (by omega)];simp only[List.nil_append,show o+1+r.length-o=r.length+1 from by omega,List.drop_succ_cons,List.drop_drop,Bg,List.cons_append];congr 4;omega
theorem EG{e:Nat}{P:Program}{w:World}{g o:Nat}{cur:Array Value}{E:TypeId}{vs:List Value}(h:D7 w g cur E e)(hl:o+vs.length<=cur.size)(h1:∀v∈vs,v.oneCell'=true) :
 (storeCells ⟨g,o,none⟩ vs 0).run P w=.ok () (w.setRow g (cur.toList.take o++vs++cur.toList.drop (o+vs.length)).toArray):=by
 rw[run_storeCells_cells (P:=P) g o vs 0 w ?_ ?_ h1]
 .grind[Rp]
 .intro j hj;rw[h.cell];simp;omega
 .intro j hj;exact h.ALM (by omega)
def XQ(e:MapEntry):Value×Value:=(e.key,e.val)
def Yl(p:Int×Int):Value×Value:=(.int .i64 p.1,.int .i64 p.2)
def Ug(w:World)(blk:Nat)(ks:List (Int×Int)):Prop:=∃es clock,w.heap[blk]?=some (.map es clock)/\es.toList.map XQ=ks.map Yl
theorem Ug.lt{w:World}{blk:Nat}{ks:List (Int×Int)}(h:Ug w blk ks):blk<w.heap.size:=by
 obtain⟨_,_,h,_⟩:=h;exact(Aj.1 h).1
theorem Ug.same{w w':World}{blk:Nat}{ks:List (Int×Int)}(h:Ug w blk ks)(hw:w'.heap[blk]?=w.heap[blk]?):Ug w' blk ks:=by
 obtain⟨es,c,h1,h2⟩:=h;exact⟨es,c,hw.trans h1,h2⟩
inductive View(w:World)(B:Blk):T->Value->Prop
 |sc {x:T} {v:Value}:Sc x v->View w B x v|sl {e:Nat} {xs:List (List T)} {a:Addr} {len cap:Nat} (c:Nat->Nat->Value):len=xs.length->len<=cap->(∀row∈xs,row.length=e) ->
  (xs≠[]->a.spot=none/\B a.block) ->
  (∀i j x,at2 xs i j=some x->w.cell? ⟨a.block,a.off+i*e+j,none⟩=some (c i j)) ->
  (∀i j x,at2 xs i j=some x->View w B x (c i j))->View w B (.sl e xs) (.slice (some a) len cap)
 |nl {e:Nat}:View w B (.sl e []) (.slice none 0 0)|mp {ks:List (Int×Int)} {blk:Nat}:Ug w blk ks->B blk->View w B (.mp ks) (.map (some blk))
inductive Own(w:World):T->Value->Blk->Prop
 |sc {x:T} {v:Value} {S:Blk}:Sc x v->v.oneCell'=true->(∀b,¬S b)->Own w x v S|sl {e:Nat} {xs:List (List T)} {blk off len cap:Nat} {arr:Array Value} {E:TypeId} {S:Blk} (c:Nat->Nat->Value) (f:Nat->Nat->Blk) :
  len=xs.length->len<=cap->(∀row∈xs,row.length=e)->D7 w blk arr E e->off+cap*e<=arr.size ->
  (∀i j x,at2 xs i j=some x->arr[off+i*e+j]?=some (c i j)) ->
  (∀i j x,at2 xs i j=some x->Own w x (c i j) (f i j)) ->
  (∀i j x,at2 xs i j=some x->¬f i j blk) ->
  (∀i j x i' j' x',at2 xs i j=some x->at2 xs i' j'=some x'->(i=i'->j≠j')->∀b,f i j b->¬f i' j' b) ->
  (∀b,S b↔b=blk\/∃i j x,at2 xs i j=some x/\f i j b) ->
  Own w (.sl e xs) (.slice (some ⟨blk,off,none⟩) len cap) S
 |nl {e:Nat} {S:Blk}:(∀b,¬S b)->Own w (.sl e []) (.slice none 0 0) S|mp {ks:List (Int×Int)} {blk:Nat} {S:Blk}:Ug w blk ks->(∀b,S b↔b=blk)->Own w (.mp ks) (.map (some blk)) S
theorem View.mono{w w':World}{B B':Blk}{x:T}{v:Value}(h:View w B x v)(hb:∀b,B b->B' b)(hw:∀b,B b->w'.heap[b]?=w.heap[b]?):View w' B' x v:=by
 induction h with
 |nl=>exact .nl|mp h h2=>exact .mp (h.same (hw _ h2)) (hb _ h2)|sc h=>exact .sc h|@sl e xs a len cap c h1 h2 h3 h4 h5 h6 ih=>
  refine .sl c h1 h2 h3 (fun h=>⟨(h4 h).1,hb _ (h4 h).2⟩) ?_ ih;intro i j x hx;have hne:xs≠[]:=by
   rintro rfl;simp[at2]at hx
  grind[World.cell?]
theorem Own.frame{w w':World}{S:Blk}{x:T}{v:Value}(h:Own w x v S)(hw:∀b,S b->w'.heap[b]?=w.heap[b]?):Own w' x v S:=by
 induction h with
 |nl hs=>exact .nl hs|mp h hs=>exact .mp (h.same (hw _ ((hs _).2 rfl))) hs|sc h h1 hs=>exact .sc h h1 hs|sl c f h1 h2 h3 h4 h5 h6 h7 h8 h9 h10 ih=>
  refine .sl c f h1 h2 h3 (h4.same (hw _ ((h10 _).2 (.inl rfl)))) h5 h6 ?_ h8 h9 h10
  grind
theorem Own.congr{w:World}{S S':Blk}{x:T}{v:Value}(h:Own w x v S)(hs:∀b,S' b↔S b):Own w x v S':=by
 cases h with
 |nl hn=>exact .nl fun b hb=>hn b ((hs b).1 hb)|mp h h2=>exact .mp h fun b=>(hs b).trans (h2 b)|sc h h1 hn=>exact .sc h h1 fun b hb=>hn b ((hs b).1 hb)|sl c f h1 h2 h3 h4 h5 h6 h7 h8 h9 h10=>exact .sl c f h1 h2 h3 h4 h5 h6 h7 h8 h9 fun b=>(hs b).trans (h10 b)
theorem Own.lt{w:World}{S:Blk}{x:T}{v:Value}(h:Own w x v S):∀b,S b->b<w.heap.size:=by
 induction h with
 |nl hs=>exact fun b hb=>(hs b hb).elim|mp h hs=>intro b hb;rw[(hs b).1 hb];exact h.lt
 |sc h h1 hs=>exact fun b hb=>(hs b hb).elim|sl c f h1 h2 h3 h4 h5 h6 h7 h8 h9 h10 ih=>
  intro b hb;rcases(h10 b).1 hb with rfl|⟨i,j,x,hx,hb⟩
  .exact h4.lt
  .exact ih i j x hx b hb
theorem Own.view{w:World}{S:Blk}{x:T}{v:Value}(h:Own w x v S):View w S x v:=by
 induction h with
 |sc h _ hs=>exact .sc h|nl=>exact .nl|mp h hs=>exact .mp h ((hs _).2 rfl)|sl c f h1 h2 h3 h4 h5 h6 h7 h8 h9 h10 ih=>
  refine .sl c h1 h2 h3 (fun _=>⟨rfl,(h10 _).2 (.inl rfl)⟩) ?_ ?_
  .intro i j x hx;rw[h4.cell];exact h6 i j x hx
  .intro i j x hx;exact(ih i j x hx).mono (fun b hb=>(h10 b).2 (.inr ⟨i,j,x,hx,hb⟩)) fun _ _=>rfl
theorem Sc.one{x:T}{v:Value}(h:Sc x v)(hx:M3 x=false):v.oneCell'=true:=by
 cases x with
 |top=>cases hx
 |un=>exact h|sl=>exact h.elim|mp=>exact h.elim|_=>have h':v=_:=h;subst h';rfl
theorem Own.one{w:World}{S:Blk}{x:T}{v:Value}(h:Own w x v S):v.oneCell'=true:=by
 cases h with
 |sc _ h _=>exact h|sl=>rfl|nl=>rfl|mp=>rfl
theorem cz{xs:List (List T)}{i j:Nat}{x:T}(h:at2 xs i j=some x):i<xs.length:=by
 grind[at2,List.getElem?_eq_some_iff]
theorem Ka{xs:List (List T)}{e i j:Nat}{x:T}(h:at2 xs i j=some x)(hr:∀row∈xs,row.length=e):j<e:=by
 grind[at2,List.mem_of_getElem?,List.getElem?_eq_some_iff]
theorem Kb{xs:List (List T)}{lo n i j:Nat}{x:T}(h:at2 ((xs.drop lo).take n) i j=some x):i<n/\at2 xs (lo+i) j=some x:=by
 grind[at2]
theorem Own.sub{w:World}{S:Blk}{e:Nat}{xs:List (List T)}{blk off len cap:Nat}(h:Own w (.sl e xs) (.slice (some ⟨blk,off,none⟩) len cap) S){lo n off' cap':Nat}
 (hn:lo+n<=len) (hc:n<=cap') (hcap:cap'<=cap-lo) (ho:cap'≠0->off'=off+lo*e) (ho':off'<=off+lo*e) :
 ∃S':Blk,(∀b,S' b->S b)/\Own w (.sl e ((xs.drop lo).take n)) (.slice (some ⟨blk,off',none⟩) n cap') S':=by
 cases h with
 |sc h _ _=>exact h.elim|sl c f h1 h2 h3 h4 h5 h6 h7 h8 h9 h10=>
  refine⟨fun b=>b=blk\/∃i j x,at2 ((xs.drop lo).take n) i j=some x/\f (lo+i) j b,?_,?_⟩
  .rintro b (rfl|⟨i,j,x,hx,hb⟩)
   .exact(h10 _).2 (.inl rfl)
   .exact(h10 _).2 (.inr ⟨_,_,_,(Kb hx).2,hb⟩)
  .have hlo:(lo+cap')*e<=cap*e:=Nat.mul_le_mul_right _ (by omega);rw[Nat.add_mul]at hlo;refine .sl (fun i j=>c (lo+i) j) (fun i j=>f (lo+i) j) (by simp;omega) hc ?_ h4 (by omega) ?_ ?_ ?_ ?_ (fun b=>Iff.rfl)
   .intro row hrow;exact h3 row (List.mem_of_mem_drop (List.mem_of_mem_take hrow))
   .intro i j x hx;have h:=Kb hx
    grind[Nat.add_mul]
   .intro i j x hx;exact h7 _ _ _ (Kb hx).2
   .intro i j x hx;exact h8 _ _ _ (Kb hx).2
   .intro i j x i' j' x' hx hx' hne;exact h9 _ _ _ _ _ _ (Kb hx).2 (Kb hx').2 (by intro h;exact hne (by omega))
def tOf:Value->Option T|.int k n=>some (.int k n)|.bool b=>some (.bool b)|.string s=>some (.str s.data.toList)|.slice none 0 0=>some .nil|.pointer none=>some .np|_=>none
def AIc:T->T->Bool|.int k a,.int k' b=>decide (k=k')&&decide (a=b)|.bool a,.bool b=>a==b|.str a,.str b=>decide (a=b)|.nil,.nil=>true|.np,.np=>true|_,_=>false
def ML(v:Value)(x:T):Bool:=match tOf v with|some y=>AIc y x|none=>false
def zq(v:Value)(x:T):Bool:=match v,x with|.slice none 0 0,.sl _ []=>true|_,_=>false
def ON:List Value->List T->Bool| [],[]=>true|v::vs,x::xs=>ML v x&&ON vs xs|_,_=>false
def Bh:Operand->Opd->Bool|.tmp t,.tmp t'=>t==t'|.const v,.k x=>ML v x||zq v x|.func _,.fn _=>true|_,_=>false
def Bk:Operand->Opd->List (Nat×Ba)|.func f,.fn g=>[(f,g)]|_,_=>[]
def K7:List Operand->List Opd->Bool| [],[]=>true|a::as,b::bs=>Bh a b&&K7 as bs|_,_=>false
def Dw:List Operand->List Opd->List (Nat×Ba)|a::as,b::bs=>Bk a b++Dw as bs|_,_=>[]
def O2:Option Operand->Option Opd->Bool|none,none=>true|some a,some b=>Bh a b|_,_=>false
def OA:Option Operand->Option Opd->List (Nat×Ba)|some a,some b=>Bk a b|_,_=>[]
section
variable(P:Program)
def RO:TypeDesc->Bool|.struct _=>true|_=>false
def Nx:TypeDesc->Bool|.struct _|.array _ _=>true|_=>false
def Iv(t:TypeId)(n:Option Nat):Bool:=
 match P.underlying t,P.info? t with
 |some d,some i=>(match n with|some k=>RO d&&i.size==k|none=>!Nx d&&i.size==1)
 |_,_=>false
def Tc(t:TypeId)(zs:List T):Bool:=
 match P.info? t with
 |some i=>(match i.zero with|some v=>ON v.cells.toList zs|none=>false)&&i.size==zs.length
 |none=>false
def SA:List Value->List T->Bool| [],[]=>true|v::vs,x::xs=>(ML v x||zq v x)&&SA vs xs|_,_=>false
def o7(t:TypeId)(zs:List T):Bool:=
 match P.info? t with
 |some i=>(match i.zero with|some v=>SA v.cells.toList zs|none=>false)&&i.size==zs.length
 |none=>false
def JH(P:Program)(el:TypeId):Bool:=match P.info? el with|some i=>(match i.zero with|some z=>z.cells.size==i.size&&decide (0<i.bytes)|none=>false)|none=>false
def EL(t:TypeId)(e:Nat):Bool:=
 match P.underlying t with
 |some (.slice el)=>(match P.info? el with|some i=>i.size==e&&decide (i.bytes<=65536)&&decide (0<e)|none=>false)
 |_=>false
def isStr(t:TypeId):Bool:=match P.underlying t with|some .string=>true|_=>false
def isInt(t:TypeId)(k:IntKind):Bool:=match P.underlying t with|some (.int k')=>decide (k'=k)|_=>false
def MZ(t:TypeId):Bool:=match P.underlying t with|some (.map k e)=>isInt P k .i64&&(match P.info? e with|some i=>(match i.zero with|some (.int .i64 n)=>n==0|_=>false)|none=>false)|_=>false
def MY(t:TypeId):Bool:=match P.underlying t with|some (.slice el)=>isInt P el .u8&&EL P t 1|_=>false
def dT(t:TypeId)(f off:Nat):Bool:=
 match P.underlying t with
 |some (.struct fs)=>(match fs[f]? with|some x=>x.offset==off&&(match P.info? x.type with|some i=>decide (0<i.size)|none=>false)|none=>false)
 |_=>false
def Lc(fs:Array Field):List (Nat×Operand)->List (Nat×Nat×Opd)->Bool
 | [],[]=>true|(i,x)::ps,(o,n,y)::qs=>(match fs[i]? with|some f=>f.offset==o&&(match P.info? f.type with|some t=>t.size==n|none=>false)|none=>false)&&Bh x y&&Lc fs ps qs
 |_,_=>false
def Jq:List (Nat×Operand)->List (Nat×Nat×Opd)->List (Nat×Ba)|(_,x)::ps,(_,_,y)::qs=>Bk x y++Jq ps qs|_,_=>[]
def Od:List (Nat×Operand)->List (Nat×Opd)->Bool| [],[]=>true|(i,x)::ps,(o,y)::qs=>i==o&&Bh x y&&Od ps qs|_,_=>false
def Lx:List (Nat×Operand)->List (Nat×Opd)->List (Nat×Ba)|(_,x)::ps,(_,y)::qs=>Bk x y++Lx ps qs|_,_=>[]
def ALq(t:TypeId)(k:Kd):Bool:=
 match P.underlying t,k with
 |some (.int _),.i=>true|some .bool,.b=>true|some .string,.s=>true|_,_=>false
def Ld(sub:TypeId->List Kd->Bool):Nat->List Field->List Kd->Bool
 |_,[],[]=>true|o,f::fs,ks=>f.name != "_" && f.offset==o&&((match ks with|k::ks=>ALq P f.type k&&Ld sub (o+1) fs ks | []=>false) ||
  (match P.info? f.type with|some i=>sub f.type (ks.take i.size)&&Ld sub (o+i.size) fs (ks.drop i.size)|none=>false))
 |_,_,_=>false
def nR:Nat->TypeId->List Kd->Bool
 |0,_,_=>false|n+1,t,ks=>match P.underlying t with|some (.struct fs)=>Ld P (nR n) 0 fs.toList ks&&!P.stoodInHeld t|_=>false
def jT(c:Cls)(t:TypeId):Bool:=
 match c,P.underlying t with
 |.num,_=>true|.bool,some .bool=>true|.sl,some (.slice _)=>true|.agg ks,some (.struct _)=>nR P 4 t ks&&!P.eqGuardType P.depth t|_,_=>false
def fW(d n:Nat):Bool:=decide (d<n)
def Pm(N:Nat)(dst:Option Nat)(op:Op)(x:XOp):Bool:=
 (match x.XN,dst with|some d,some d'=>d==d'&&fW d N|none,none=>true|_,_=>false) &&
 match op,x with
 |.move a,.mv _ b=>Bh a b|.assign a,.as _ b=>Bh a b|.pick c a b,.pick _ c' a' b'=>Bh c c'&&Bh a a'&&Bh b b'|.alloc t,.alloc _ zs=>Tc P t zs|.box _ a,.box _ b=>Bh a b|.build t ps,.build _ zs qs=>Tc P t zs&&(match P.underlying t with|some (.struct fs)=>fs.toList.all (fun f=>(P.info? f.type).isSome)&&Lc P fs ps.toList qs|_=>false)
 |.buildSlice t n ps,.Bp _ n' zs qs=>n==n'&&EL P t zs.length&&(match P.underlying t with|some (.slice el)=>o7 P el zs|_=>false)&&Od ps.toList qs
 |.load t a,.ld _ n b=>Iv P t n&&Bh a b|.store t a v,.st n a' v'=>(match P.info? t with|some i=>i.size==n % 1048576|none=>false)&&Bh a a'&&Bh v v'
 |.nilCheck a,.chk _ b=>Bh a b|.binOp op t a b _,.bin _ c op' a' b'=>decide (op=op')&&Bh a a'&&Bh b b'&&jT P c t|.unOp op _ a,.un _ op' b=>decide (op=op')&&Bh a b|.convert s t a,.cvI _ k b=>Bh a b&&isInt P t k&&(match P.underlying s with|some (.int _)=>true|_=>false)
 |.convert s t a,.Je _ b=>Bh a b&&isStr P s&&MY P t|.convert s t a,.NO _ b=>Bh a b&&MY P s&&isStr P t|.makeFunc (.func _) first caps,.Pk _ _ caps'=>first.isEmpty&&K7 caps.toList caps'
 |.makeSlice t n c,.Ji _ zs n' c'=>EL P t zs.length&&(match P.underlying t with|some (.slice el)=>o7 P el zs|_=>false)&&Bh n n'&&Bh c c'
 |.slice t a lo hi mx,.sub _ e b lo' hi'=>Bh a b&&O2 lo lo'&&O2 hi hi'&&mx.isNone&&EL P t e|.slice t a lo hi mx,.P2 _ b lo' hi'=>Bh a b&&O2 lo lo'&&O2 hi hi'&&mx.isNone&&isStr P t|.fieldAddr t a f,.fa _ off b=>dT P t f off&&Bh a b|.indexAddr t a i,.ia _ e b i'=>EL P t e&&Bh a b&&Bh i i'|.index t a i,.ix _ b i'=>isStr P t&&Bh a b&&Bh i i'|.extract a i,.ext _ b i'=>Bh a b&&i==i'|.call { callee:=.value (.func _),args,..},.call _ _ args'=>K7 args.toList args'|.call { callee:=.value f,args,..},.Dm _ f' _ args'=>Bh f f'&&K7 args.toList args'|.call { callee:=.builtin .len,args,argTypes},.len _ b=>(match args.toList,argTypes.toList with
  | [a],[t]=>Bh a b&&(match P.underlying t with|some (.slice _)=>true|_=>false)
  |_,_=>false)
 |.call { callee:=.builtin .len,args,argTypes},.lens _ b=>(match args.toList,argTypes.toList with
  | [a],[t]=>Bh a b&&isStr P t|_,_=>false)
 |.call { callee:=.builtin .append,args,argTypes},.app _ e _ a' b'=>(match args.toList,argTypes.toList with
  | [a,b],[t,u]=>Bh a a'&&Bh b b'&&EL P t e&&(match P.underlying t with|some (.slice el)=>JH P el|_=>false) &&
   (match P.underlying u with|some (.slice el)=>EL P u e&&(match P.underlying t with|some (.slice el')=>el==el'|_=>false)|some .string=>e==1&&MY P t|_=>false)
  |_,_=>false)
 |.call { callee:=.builtin .append,args,argTypes},.Oo _ zs a' b'=>(match args.toList,argTypes.toList with
  | [a,b],[t,u]=>Bh a a'&&Bh b b'&&EL P t zs.length&&(match P.underlying t with|some (.slice el)=>o7 P el zs&&JH P el|_=>false)&&(match P.underlying u with|some (.int _)=>true|_=>false)
  |_,_=>false)
 |.call { callee:=.builtin .copy,args,argTypes},.cpy _ e a' b'=>(match args.toList,argTypes.toList with
  | [a,b],[t,u]=>Bh a a'&&Bh b b'&&EL P t e&&EL P u e|_,_=>false)
 |.makeMap t r,.mmk _=>r.isNone&&MZ P t|.lookup t m k ok,.Oq _ m' k'=>!ok&&MZ P t&&Bh m m'&&Bh k k'|.mapUpdate t m k v,.N3 m' k' v'=>MZ P t&&Bh m m'&&Bh k k'&&Bh v v'|.call { callee:=.builtin .len,args,argTypes},.AMo _ b=>(match args.toList,argTypes.toList with
  | [a],[t]=>Bh a b&&MZ P t|_,_=>false)
 |.call { callee:=.builtin .max,args,..},.mm _ true a' b'=>(match args.toList with | [a,b]=>Bh a a'&&Bh b b'|_=>false)
 |.call { callee:=.builtin .min,args,..},.mm _ false a' b'=>(match args.toList with | [a,b]=>Bh a a'&&Bh b b'|_=>false)
 |_,.bad _=>true|_,_=>false
end
def DI(op:Op)(x:XOp):List (Nat×Ba):=
 match op,x with
 |.move a,.mv _ b|.assign a,.as _ b|.box _ a,.box _ b|.load _ a,.ld _ _ b|.nilCheck a,.chk _ b|.unOp _ _ a,.un _ _ b|.convert _ _ a,.cvI _ _ b|.convert _ _ a,.Je _ b|.convert _ _ a,.NO _ b|.fieldAddr _ a _,.fa _ _ b|.extract a _,.ext _ b _=>Bk a b|.pick c a b,.pick _ c' a' b'=>Bk c c'++Bk a a'++Bk b b'|.build _ ps,.build _ _ qs=>Jq ps.toList qs|.buildSlice _ _ ps,.Bp _ _ _ qs=>Lx ps.toList qs|.store _ a v,.st _ a' v'=>Bk a a'++Bk v v'|.binOp _ _ a b _,.bin _ _ _ a' b'=>Bk a a'++Bk b b'|.makeFunc (.func f) _ caps,.Pk _ g caps'=>(f,g)::Dw caps.toList caps'|.makeSlice _ n c,.Ji _ _ n' c'=>Bk n n'++Bk c c'|.slice _ a lo hi _,.sub _ _ b lo' hi'|.slice _ a lo hi _,.P2 _ b lo' hi'=>Bk a b++OA lo lo'++OA hi hi'|.indexAddr _ a i,.ia _ _ b i'|.index _ a i,.ix _ b i'=>Bk a b++Bk i i'|.call { callee:=.value (.func f),args,..},.call _ g args'=>(f,g)::Dw args.toList args'|.call { callee:=.value f,args,..},.Dm _ f' _ args'=>Bk f f'++Dw args.toList args'|.lookup _ m k _,.Oq _ m' k'=>Bk m m'++Bk k k'|.mapUpdate _ m k v,.N3 m' k' v'=>Bk m m'++Bk k k'++Bk v v'|.call { args,..},.AMo _ b=>Dw args.toList [b]|.call { args,..},.len _ b|.call { args,..},.lens _ b=>Dw args.toList [b]|.call { args,..},.app _ _ _ a b|.call { args,..},.Oo _ _ a b|.call { args,..},.cpy _ _ a b|.call { args,..},.mm _ _ a b=>Dw args.toList [a,b]|_,_=>[]
def Kk(ops:Array Oper):Option (Nat×Bool)->Option (Nat×Bool)->Bool
 |none,none=>true|some (j,want),some (s,want')=>want==want'&&(match ops[j]? with|some o=>decide (o.dst=some s)|none=>false)
 |_,_=>false
def Lr(P:Program)(N:Nat)(ops:Array Oper):List Oper->List (Option (Nat×Bool)×XOp)->Bool| [],[]=>true|os,(g,.drop _)::xs=>g.isNone&&Lr P N ops os xs|os,(g,.RT _)::xs=>g.isNone&&Lr P N ops os xs|o::os,(g,x)::xs=>Kk ops o.guard g&&Pm P N o.dst o.op x&&Lr P N ops os xs|_,_=>false
def K8:List Oper->List (Option (Nat×Bool)×XOp)->List (Nat×Ba)|os,(_,.drop _)::xs=>K8 os xs|os,(_,.RT _)::xs=>K8 os xs|o::os,(_,x)::xs=>DI o.op x++K8 os xs|_,_=>[]
inductive ALV where
 |pure|ld|eff
def JI:XOp->ALV|.ld _ _ _|.NO _ _=>.ld|.alloc _ _|.box _ _|.Bp _ _ _ _|.Ji _ _ _ _|.Je _ _|.app _ _ _ _ _|.Oo _ _ _ _|.cpy _ _ _ _|.st _ _ _|.mmk _|.Oq _ _ _|.N3 _ _ _|.AMo _ _|.bad _|.call _ _ _|.Dm _ _ _ _|.drop _|.RT _=>.eff|_=>.pure
def Ny:XOp->Option Nat|.ld _ _ (.tmp s)=>some s|.NO _ (.tmp s)=>some s|_=>none
def nK(ops:Array Oper)(j:Nat):Nat:=match ops[j]? with|some o=>o.after.toList.foldl (fun m e=>if Region.binds .any e=true then m |||2 ^ e.on else m) 0|none=>0
def ADP(ops:Array Oper):Nat->Nat->Nat
 |0,m=>m|k+1,m=>match m.testBit k with|true=>ADP ops k (m |||nK ops k)|false=>ADP ops k m
def Mv(ops:Array Oper)(n j i:Nat):Bool:=(ADP ops n (nK ops j)).testBit i
def Kl:M9->List Nat|.nil=>[]|.op i _ _ _ _=>[i]|.dr _ r=>Kl r|.nl _ r=>Kl r|.both a b=>Kl a++Kl b
def Ga:M9->Nat|.nil=>0|.op _ _ _ _ r=>Ga r+1|.dr _ r=>Ga r|.nl _ r=>Ga r|.both a b=>max (Ga a) (Ga b)
def GS(P:Program)(N:Nat)(ops:Array Oper):Bool->M9->Array Bool->List (Nat×Nat)->Bool
 |top,.nil,L,_=>top&&(Region.ready .any ops L).isEmpty|top,.dr _ r,L,Ls=>GS P N ops top r L Ls|top,.nl _ r,L,Ls=>GS P N ops top r L Ls|top,.both a b,L,Ls=>(!top||(!(Region.ready .any ops L).isEmpty&&(Region.ready .any ops L).all (fun j=>(Kl a++Kl b).contains j)))&&GS P N ops false a L Ls&&GS P N ops false b L Ls|top,.op i g sf x r,L,Ls=>match ops[i]? with
  |none=>false|some o=>Kk ops o.guard g&&Pm P N o.dst o.op x&&Ls.all (fun t=>!(o.dst==some t.2))&&(match JI x with
   |.pure=>top&&(Region.ready .any ops L).contains i&&Region.free .any ops L i&&GS P N ops true r (L.setIfInBounds i true) Ls|.ld=>top&&(Region.ready .any ops L).contains i&&Region.free .any ops L i&&(match Ny x with|some s=>!(o.dst==some s)&&GS P N ops true r (L.setIfInBounds i true) ((i,s)::Ls)|none=>false)
   |.eff=>(!top||((Region.ready .any ops L).contains i&&(Region.ready .any ops L).all (fun j=>j==i)))&&Ls.all (fun t=>sf.contains t.2||Mv ops ops.size i t.1)&&GS P N ops true r (L.setIfInBounds i true) Ls)
def bA(n m:Nat):Array Bool:=((List.range n).map fun i=>m.testBit i).toArray
def Cp{α:Type}(n:Nat)(K:Nat->α):α:=match n with|0=>K 0|k+1=>K (k+1)
theorem El{α:Type}(n:Nat)(K:Nat->α):Cp n K=K n:=by cases n<;>rfl
def fq(P:Program)(N:Nat)(ops:Array Oper)(top:Bool)(i:Nat)(g:Option (Nat×Bool))(sf:List Nat)(x:XOp)(L:Array Bool)(Ls:List (Nat×Nat)):Bool:=match ops[i]? with
 |none=>false|some o=>Kk ops o.guard g&&Pm P N o.dst o.op x&&Ls.all (fun t=>!(o.dst==some t.2))&&(match JI x with
  |.pure=>top&&(Region.ready .any ops L).contains i&&Region.free .any ops L i|.ld=>top&&(Region.ready .any ops L).contains i&&Region.free .any ops L i&&(match Ny x with|some s=>!(o.dst==some s)|none=>false)
  |.eff=>(!top||((Region.ready .any ops L).contains i&&(Region.ready .any ops L).all (fun j=>j==i)))&&Ls.all (fun t=>sf.contains t.2||Mv ops ops.size i t.1))
def JP(P:Program)(N:Nat)(ops:Array Oper):Bool->M9->Nat->List (Nat×Nat)->Bool
 |top,.nil,m,_=>top&&(Region.ready .any ops (bA ops.size m)).isEmpty|top,.dr _ r,m,Ls=>JP P N ops top r m Ls&&true|top,.nl _ r,m,Ls=>JP P N ops top r m Ls&&true|top,.both a b,m,Ls=>JP P N ops false a m Ls&&(JP P N ops false b m Ls&&(!top||(!(Region.ready .any ops (bA ops.size m)).isEmpty&&(Region.ready .any ops (bA ops.size m)).all (fun j=>(Kl a++Kl b).contains j))))|top,.op i g sf x r,m,Ls=>match Ny x with|some s=>Cp (m |||2 ^ i) fun m'=>JP P N ops true r m' ((i,s)::Ls)&&fq P N ops top i g sf x (bA ops.size m) Ls|none=>Cp (m |||2 ^ i) fun m'=>JP P N ops true r m' Ls&&fq P N ops top i g sf x (bA ops.size m) Ls
theorem AHz(n:Nat):bA n 0=Array.replicate n false:=by
 apply Array.ext
 .simp[bA]
 .intro i h1 h2;simp[bA]
theorem ADT(n m i:Nat):(bA n m).setIfInBounds i true=bA n (m |||2 ^ i):=by
 apply Array.ext
 .simp[bA]
 .intro j h1 h2;simp only[bA,List.setIfInBounds_toArray,List.getElem_toArray,List.getElem_set,List.getElem_map,List.getElem_range,Nat.testBit_or,Nat.testBit_two_pow]
  grind
theorem nx{x:XOp}{s:Nat}(h:Ny x=some s):JI x=.ld:=by
 unfold Ny at h;split at h<;>first|rfl|cases h
theorem Ij{P:Program}{N:Nat}{ops:Array Oper}:∀(r:M9) (top:Bool) (m:Nat) (Ls:List (Nat×Nat)),JP P N ops top r m Ls=true->GS P N ops top r (bA ops.size m) Ls=true
 |.nil,top,m,Ls,h=>h|.dr _ r,top,m,Ls,h=>by
  simp only[JP,B9]at h;simpa only[GS] using Ij r top m Ls h
 |.nl _ r,top,m,Ls,h=>by
  simp only[JP,B9]at h;simpa only[GS] using Ij r top m Ls h
 |.both a b,top,m,Ls,h=>by
  simp only[JP,AD]at h;obtain⟨h1,h2,h3⟩:=h;simp only[GS,AD];exact⟨⟨h3,Ij a false m Ls h1⟩,Ij b false m Ls h2⟩
 |.op i g sf x r,top,m,Ls,h=>by
  unfold JP at h;unfold GS;split at h
  .rename_i s hs;rw[El,AD]at h;obtain⟨h1,h2⟩:=h;have h1:=Ij r true _ _ h1;rw[<-ADT]at h1;unfold fq at h2;have hk:=nx hs;split at h2
   .cases h2
   .simp only[hk,hs,AD]at h2 ⊢;exact⟨h2.1,⟨h2.2.1,⟨h2.2.2,h1⟩⟩⟩
  .rename_i hs;rw[El,AD]at h;obtain⟨h1,h2⟩:=h;have h1:=Ij r true _ _ h1
   grind[ADT,fq]
def JO(ops:Array Oper):M9->List (Nat×Ba)
 |.nil=>[]|.op i _ _ x r=>(match ops[i]? with|some o=>DI o.op x|none=>[])++JO ops r
 |.dr _ r=>JO ops r|.nl _ r=>JO ops r|.both a b=>JO ops a++JO ops b
def codeOk(P:Program)(N:Nat):Code->J0->Bool|.skip,.skip=>true|.region _ ops d,.region xs _=>!d&&Lr P N ops ops.toList xs|.region _ ops d,.SZ r _=>d&&P.follows .mixedOrders&&Region.noSelect ops&&decide (Ga r<=ops.size)&&JP P N ops true r 0 []|.seq a b,.seq a' b'=>codeOk P N a a'&&codeOk P N b b'|.cond (.tmp c) t e,.cond c' _ _ t' e'=>c==c'&&codeOk P N t t'&&codeOk P N e e'|.block id b,.block id' b'=>id==id'&&codeOk P N b b'|.loop b,.loop b'=>codeOk P N b b'|.exit id,.exit id'=>id==id'|.ret,.ret=>true|.scope b,.scope b'=>codeOk P N b b'|.cond (.const (.bool true)) t _,.scope x=>codeOk P N t x|.cond (.const (.bool false)) _ e,.scope x=>codeOk P N e x|c,.or a b=>codeOk P N c a&&codeOk P N c b|_,.dead=>true|_,_=>false
def DM:Code->J0->List (Nat×Ba)|.region _ ops _,.region xs _=>K8 ops.toList xs|.region _ ops _,.SZ r _=>JO ops r|.seq a b,.seq a' b'=>DM a a'++DM b b'|.cond _ t e,.cond _ _ _ t' e'=>DM t t'++DM e e'|.block _ b,.block _ b'=>DM b b'|.loop b,.loop b'=>DM b b'|.scope b,.scope b'=>DM b b'|.cond (.const (.bool true)) t _,.scope x=>DM t x|.cond (.const (.bool false)) _ e,.scope x=>DM e x|c,.or a b=>DM c a++DM c b|_,_=>[]
def Fu(P:Program):List ResultVar->List H9->Bool| [],[]=>true|.tmp t::rs,.tmp t'::xs=>t==t'&&Fu P rs xs|.cell t ty::rs,.cell t' n::xs=>t==t'&&Iv P ty n&&Fu P rs xs|.tmp t::rs,.bx t'::xs=>t==t'&&Fu P rs xs|.tmp t::rs,.vw t' _::xs=>t==t'&&Fu P rs xs|.cell t ty::rs,.un t' n::xs=>t==t'&&Iv P ty (some n)&&Fu P rs xs|_,_=>false
def Sd(P:Program)(fn:Func)(c:Code):Ba->Bool|.mk ms rs body=>decide (ms.length<=fn.ntmps)&&Fu P fn.results.toList rs&&codeOk P fn.ntmps c body&&fn.name != "runtime.NumGoroutine"|.K9 _ _=>false
def zX(c:Code):Ba->List (Nat×Ba)|.mk _ _ body=>DM c body|.K9 _ _=>[]
inductive Mt(A:Nat->Nat->List Md->Prop)(P:Program):Nat->Ba->Prop|K9 {n id:Nat} {ms:List Md}:A n id ms->Mt A P n (.K9 id ms)|mk {n:Nat} {f:Ba} {fn:Func} {c:Code}:P.funcs[n]?=some fn->fn.body=some c->Sd P fn c f=true->(∀p∈zX c f,Mt A P p.1 p.2)->Mt A P n f
def Gu:List (Option Nat)->List Value->List Value| [],_=>[]|none::ns,vs=>vs.headD undef::Gu ns (vs.drop 1)|some n::ns,vs=>.agg (vs.take n).toArray::Gu ns (vs.drop n)
def mkV:Sh->List Value->Value|.one,vs=>vs.headD undef|.agg,vs=>.agg vs.toArray|.tup ns,vs=>.tuple (Gu ns vs).toArray|.ptr _,vs=>vs.headD undef|.vw _,vs=>vs.headD undef
structure Fix where
 P:Program
 A:Nat->Nat->List Md->Prop
 R:Nat->Blk
 K:Blk
 RK:∀k b,R k b->K b
 w0:World
 pv:Nat->Value
 β0:Nat->Nat
 N:Nat
structure Gh where
 β:Nat->Nat
 tv:Nat->List Value
 bv:Nat->List Value
 fp:Bj->Blk
def Gh.rv(g:Gh):Bj->Option Value|.tmp s c=>(g.tv s)[c]?|.cell b c=>(g.bv b)[c]?
def PD(w:World)(B:Blk)(cs:List T)(v:Value):Prop:=
 ∃(a:Addr) (c:Nat->Value),v=.pointer (some a)/\a.spot=none/\∀j x,cs[j]?=some x->B a.block/\w.cell? ⟨a.block,a.off+j,none⟩=some (c j)/\View w B x (c j)
def AAb(w:World)(B:Blk)(cs:List T)(v:Value):Prop:=
 ∃(a:Addr) (c:Nat->Value) (f:Nat->Blk),v=.pointer (some a)/\a.spot=none /\
  ∀j x,cs[j]?=some x->B a.block/\w.cell? ⟨a.block,a.off+j,none⟩=some (c j)/\(∀b,f j b->B b)/\Own w x (c j) (f j)
def AHn(x:T)(sub:Option (Nat×Nat))(u v:Value):Prop:=
 match sub with
 |none=>v=u|some (lo,n)=>match x with
  |.sl e xs=>(∃blk off len cap off' cap',u=.slice (some ⟨blk,off,none⟩) len cap/\v=.slice (some ⟨blk,off',none⟩) n cap'/\lo+n<=xs.length/\cap'=cap-lo /\
   (cap'≠0->off'=off+lo*e)/\off'<=off+lo*e)\/(u=.slice none 0 0/\v=.slice none 0 0/\xs=[]/\lo=0/\n=0)
  |_=>v=u/\lo=0/\n=0
def D4(F:Fix)(g:Gh)(w:World):AN->Value->Prop|.t x,v=>Sc x v|.und,v=>v=undef|.vw (.old k) e xs,v=>View w (F.R k) (.sl e xs) v|.vp (.old k) cs,v=>PD w (F.R k) cs v|.bp id off,v=>v=.pointer (some ⟨g.β id,off,none⟩)|_,_=>False
def Bl(S:St)(r:Bj):Prop:=∃x,S.at r=some (.ow x)
def AtC(S:St)(g:Gh)(w:World)(r:Bj)(p:Option (Nat×Nat))(e:Nat)(xs:List (List T))(v:Value):Prop:=
 match p with
 |none=>True|some (i,j)=>∃e0 rows blk off len cap,S.at r=some (.ow (.sl e0 rows))/\g.rv r=some (.slice (some ⟨blk,off,none⟩) len cap)/\at2 rows i j=some (.sl e xs) /\
  g.fp r blk/\w.cell? ⟨blk,off+i*e0+j,none⟩=some v
def BR(F:Fix)(S:St)(g:Gh)(w:World)(fp:Blk):AN->Value->Prop
 |.ow x,v=>Own w x v fp|.al r sub,v=>∃x u,S.at r=some (.ow x)/\g.rv r=some u/\AHn x sub u v|.ep r i j,v=>∃e xs blk off len cap,S.at r=some (.ow (.sl e xs))/\g.rv r=some (.slice (some ⟨blk,off,none⟩) len cap)/\i<xs.length /\
  v=.pointer (some ⟨blk,off+i*e+j,none⟩)
 |.vw (.own r p) e xs,v=>Bl S r/\(∃S',(∀b,S' b->g.fp r b)/\Own w (.sl e xs) v S')/\AtC S g w r p e xs v|.vp (.own r _) cs,v=>Bl S r/\AAb w (g.fp r) cs v|.fn f caps,v=>∃n cv,v=.func (.func n) #[] cv/\Mt F.A F.P n f/\cv.size=caps.length/\∀(i:Nat) (l:AN) (c:Value),caps[i]?=some l->cv[i]?=some c->D4 F g w l c|l,v=>D4 F g w l v
structure Inv(F:Fix)(S:St)(g:Gh)(a:Act)(w:World):Prop where
 CL:∀r l,S.at r=some l->∃v,g.rv r=some v/\BR F S g w (g.fp r) l v
 tms:∀s e,get S.tm s=some e->s<F.N/\a.tmps.getD s undef=mkV e.sh (g.tv s)/\(g.tv s).length=e.cs.length
 bxs:∀id ls,get S.bx id=some ls->(∃E,w.heap[g.β id]?=some (.cells (g.bv id).toArray E (0,0)))/\(g.bv id).length=ls.length
 dis:∀r r',Bl S r->Bl S r'->r≠r'->∀b,g.fp r b->¬g.fp r' b
 EO:∀r id,Bl S r->(get S.bx id).isSome->¬g.fp r (g.β id)
 Fa:∀r,Bl S r->∀b,g.fp r b->¬F.K b
 E8:∀id id',(get S.bx id).isSome->(get S.bx id').isSome->g.β id=g.β id'->id=id'
 bxR:∀id,(get S.bx id).isSome->¬F.K (g.β id)
 EM:∀b,F.K b->w.heap[b]?=F.w0.heap[b]?
 rlt:∀b,F.K b->b<F.w0.heap.size
 still:Still F.w0 w
 defs:a.defers=[]
 tsz:a.tmps.size=F.N
 pin:∀p∈S.pin,a.tmps.getD p undef=F.pv p/\((get S.bx p).isSome->g.β p=F.β0 p)
theorem Inv.size{F:Fix}{S:St}{g:Gh}{a:Act}{w:World}(h:Inv F S g a w):F.w0.heap.size<=w.heap.size:=h.still.size
section tools
variable{F:Fix}{S S':St}{g g':Gh}{a:Act}{w w':World}
theorem View.same{B:Blk}{x:T}{v:Value}(h:View w B x v)(hw:∀b,B b->w'.heap[b]?=w.heap[b]?):View w' B x v:=h.mono (fun _ h=>h) hw
theorem IS{b o:Nat}(h:w'.heap[b]?=w.heap[b]?):w'.cell? ⟨b,o,none⟩=w.cell? ⟨b,o,none⟩:=by simp[World.cell?,h]
theorem PD.same{B:Blk}{cs:List T}{v:Value}(h:PD w B cs v)(hw:∀b,B b->w'.heap[b]?=w.heap[b]?):PD w' B cs v:=by
 obtain⟨a,c,h1,h2,h3⟩:=h;refine⟨a,c,h1,h2,fun j x hx=>?_⟩;obtain⟨h4,h5,h6⟩:=h3 j x hx;exact⟨h4,by rw[IS (hw _ h4),h5],h6.same hw⟩
theorem AAb.same{B B':Blk}{cs:List T}{v:Value}(h:AAb w B cs v)(hB:∀b,B b->B' b)(hw:∀b,B b->w'.heap[b]?=w.heap[b]?):AAb w' B' cs v:=by
 obtain⟨a,c,f,h1,h2,h3⟩:=h;refine⟨a,c,f,h1,h2,fun j x hx=>?_⟩;obtain⟨h4,h5,h6,h7⟩:=h3 j x hx;exact⟨hB _ h4,by rw[IS (hw _ h4),h5],fun b hb=>hB b (h6 b hb),h7.frame fun b hb=>hw b (h6 b hb)⟩
theorem D4.tr{l:AN}{v:Value}(h:D4 F g w l v)(hb:∀id off,l=.bp id off->g'.β id=g.β id)(hR:∀b,F.K b->w'.heap[b]?=w.heap[b]?) :
 D4 F g' w' l v:=by
 unfold D4 at h ⊢;split at h<;>simp_all
 .exact h.same fun b hb=>hR b (F.RK _ b hb)
 .exact h.same fun b hb=>hR b (F.RK _ b hb)
theorem BR.tr{fp:Blk}{l:AN}{v:Value}(h:BR F S g w fp l v)
 (hr:∀r,l.BX=some r->S'.at r=S.at r/\g'.rv r=g.rv r/\(∀b,g.fp r b->g'.fp r b)/\∀b,g.fp r b->w'.heap[b]?=w.heap[b]?)
 (hb:∀id∈names l,g'.β id=g.β id) (hF:∀b,fp b->w'.heap[b]?=w.heap[b]?) (hR:∀b,F.K b->w'.heap[b]?=w.heap[b]?):BR F S' g' w' fp l v:=by
 match l,h with
 |.ow x,h=>exact Own.frame h hF|.al r sub,⟨x,u,h1,h2,h3⟩=>
  obtain⟨e1,e2,_,_⟩:=hr r rfl;exact⟨x,u,e1.trans h1,e2.trans h2,h3⟩
 |.ep r i j,⟨e,xs,blk,off,len,cap,h1,h2,h3,h4⟩=>
  obtain⟨e1,e2,_,_⟩:=hr r rfl;exact⟨e,xs,blk,off,len,cap,e1.trans h1,e2.trans h2,h3,h4⟩
 |.vw (.own r p) e xs,⟨⟨x,h0⟩,⟨S0,h1,h2⟩,h3⟩=>
  obtain⟨e1,e2,e3,e4⟩:=hr r rfl;refine⟨⟨x,e1.trans h0⟩,⟨S0,fun b hb=>e3 b (h1 b hb),h2.frame fun b hb=>e4 b (h1 b hb)⟩,?_⟩;cases p with
  |none=>trivial|some q=>
   obtain⟨i,j⟩:=q;obtain⟨e0,rows,blk,off,len,cap,k1,k2,k3,k4,k5⟩:=h3;exact⟨e0,rows,blk,off,len,cap,e1.trans k1,e2.trans k2,k3,e3 _ k4,(IS (e4 _ k4)).trans k5⟩
 |.vp (.own r _) cs,⟨⟨x,h0⟩,h1⟩=>
  obtain⟨e1,e2,e3,e4⟩:=hr r rfl;exact⟨⟨x,e1.trans h0⟩,h1.same e3 e4⟩
 |.fn f caps,⟨n,cv,h1,h2,h3,h4⟩=>
  refine⟨n,cv,h1,h2,h3,fun i l c hl hc=>(h4 i l c hl hc).tr ?_ hR⟩;rintro id off rfl;refine hb id ?_;simp only[names,List.mem_filterMap];exact⟨_,AX hl,rfl⟩
 |.t x,h=>exact D4.tr (g:=g) (g':=g') (l:=.t x) h (by simp) hR|.und,h=>exact D4.tr (g:=g) (g':=g') (l:=.und) h (by simp) hR|.vw (.old k) e xs,h=>exact D4.tr (g:=g) (g':=g') (l:=.vw (.old k) e xs) h (by simp) hR|.vp (.old k) cs,h=>exact D4.tr (g:=g) (g':=g') (l:=.vp (.old k) cs) h (by simp) hR|.bp id off,h=>exact D4.tr (g:=g) (g':=g') (l:=.bp id off) h (by rintro _ _ ⟨⟩;exact hb id (by simp[names])) hR
theorem BR.top{fp:Blk}{v:Value}:BR F S g w fp (.t .top) v:=trivial
theorem BR.alive{fp:Blk}{l:AN}{v:Value}(h:BR F S g w fp l v){r:Bj}(hr:l.BX=some r):Bl S r:=by
 match l,h with
 |.al r' sub,⟨x,u,h1,h2,h3⟩=>cases hr;exact⟨x,h1⟩
 |.ep r' i j,⟨e,xs,blk,off,len,cap,h1,h2,h3,h4⟩=>cases hr;exact⟨_,h1⟩
 |.vw (.own r' _) e xs,⟨h0,_⟩=>cases hr;exact h0
 |.vp (.own r' _) cs,⟨h0,_⟩=>cases hr;exact h0
end tools
end Lv
namespace Lv
open Go
section lists
variable{α:Type}
theorem ES(l:List (Nat×α))(s k:Nat)(a:α):get (put l s a) k=if k=s then some a else get l k:=by
 induction l with
 |nil=>
  grind[put,get]
 |cons p r ih=>
  grind[put,get]
theorem Dz(q:AN->Bool)(l:List (Nat×Ent))(s:Nat):get (IN q l) s=(get l s).map fun e=>⟨e.sh,DS q e.cs⟩:=by
 induction l with
 |nil=>rfl|cons p r ih=>obtain⟨k,e⟩:=p;simp only[IN,get,ih];split<;>rfl
theorem CZ(q:AN->Bool)(l:List (Nat×List AN))(s:Nat):get (IM q l) s=(get l s).map (DS q):=by
 induction l with
 |nil=>rfl|cons p r ih=>obtain⟨k,e⟩:=p;simp only[IM,get,ih];split<;>rfl
theorem FM(ks:List Nat)(l:List (Nat×α))(s:Nat):get (Ew ks l) s=if s∈ks then get l s else none:=by
 induction l with
 |nil=>simp[Ew,get]|cons p r ih=>
  grind[Ew,get]
theorem IU(ks:List Nat)(l:List (Nat×α))(s:Nat):get (HH ks l) s=if s∈ks then none else get l s:=by
 induction l with
 |nil=>simp[HH,get]|cons p r ih=>
  grind[HH,get]
theorem Em(q:AN->Bool)(ls:List AN)(c:Nat):(DS q ls)[c]?=(ls[c]?).map fun l=>if q l then .t .top else l:=by
 induction ls generalizing c with
 |nil=>simp[DS]|cons l ls ih=>cases c<;>simp[DS,ih]
theorem D1(q:AN->Bool)(ls:List AN):(DS q ls).length=ls.length:=by
 induction ls with
 |nil=>rfl|cons l ls ih=>simp[DS,ih]
end lists
theorem o6{l:AN}{b c:Nat}(h:l.BX=some (.cell b c)):l.Iy=some b:=by
 match l,h with
 |.al _ _,h=>cases h;rfl
 |.ep _ _ _,h=>cases h;rfl
 |.vw (.own _ _) _ _,h=>cases h;rfl
 |.vp (.own _ _) _,h=>cases h;rfl
section at_
variable{S:St}
theorem F7(q:AN->Bool)(r:Bj):(S.kill q).at r=(S.at r).map fun l=>if q l then .t .top else l:=by
 cases r with
 |tmp s c=>
  grind[St.at,St.kill,Dz,get,Em]
 |cell b c=>
  grind[St.at,St.kill,CZ,get,Em]
theorem Es{r:Bj}{l0:AN}(h:S.at r=some l0)(l:AN)(r':Bj):(S.BT r l).at r'=if r'=r then some l else S.at r':=by
 cases r with
 |tmp s c=>
  simp only[St.at,St.BT]at h ⊢;cases hs:get S.tm s with
  |none=>simp[hs]at h|some e=>
   simp only[hs]at h ⊢;cases r' with
   |tmp s' c'=>
    simp only[ES];by_cases h1:s'=s
    .subst h1;simp only[if_true,hs];have hlt:=(AJ.1 h).1;rw[C9];by_cases h2:c=c'<;>simp_all[eq_comm]
    .simp[h1]
   |cell b c'=>simp
 |cell b c=>
  simp only[St.at,St.BT]at h ⊢;cases hs:get S.bx b with
  |none=>simp[hs]at h|some e=>
   simp only[hs]at h ⊢;cases r' with
   |tmp s' c'=>simp|cell b' c'=>
    simp only[ES];by_cases h1:b'=b
    .subst h1;simp only[if_true,hs];have hlt:=(AJ.1 h).1;rw[C9];by_cases h2:c=c'<;>simp_all[eq_comm]
    .simp[h1]
theorem KT{r:Bj}{l:AN}{s:Nat}{e':Ent}(h:get (S.BT r l).tm s=some e'):∃e,get S.tm s=some e/\e'.sh=e.sh/\e'.cs.length=e.cs.length:=by
 cases r with
 |tmp s0 c=>
  grind[St.BT,ES]
 |cell b c=>
  grind[St.BT]
theorem HU{r:Bj}{l:AN}{s:Nat}{ls':List AN}(h:get (S.BT r l).bx s=some ls'):∃ls,get S.bx s=some ls/\ls'.length=ls.length:=by
 cases r with
 |tmp s0 c=>
  grind[St.BT]
 |cell b c=>
  grind[St.BT,ES]
theorem Fz{r:Bj}{l:AN}:(S.BT r l).pin=S.pin:=by
 cases r<;>simp only[St.BT]<;>split<;>rfl
theorem C6{r:Bj}{l:AN}{s:Nat}:(get (S.BT r l).bx s).isSome=(get S.bx s).isSome:=by
 cases r with
 |tmp s0 c=>simp only[St.BT];split<;>rfl|cell b c=>
  grind[St.BT,ES]
end at_
section moves
variable{F:Fix}{S S':St}{g g':Gh}{a a':Act}{w w':World}
theorem Inv.weaken(h:Inv F S g a w)(h1:∀s e',get S'.tm s=some e'->∃e,get S.tm s=some e/\e'.sh=e.sh/\e'.cs.length=e.cs.length)
 (h2:∀id ls',get S'.bx id=some ls'->∃ls,get S.bx id=some ls/\ls'.length=ls.length)
 (h3:∀r l',S'.at r=some l'->l'=.t .top/\(S.at r).isSome\/(S.at r=some l'/\∀r1 x,l'.BX=some r1->S.at r1=some (.ow x)->S'.at r1=some (.ow x)))
 (h4:S'.pin=S.pin):Inv F S' g a w:=by
 have hal:∀r,Bl S' r->Bl S r:=by
  rintro r ⟨x,hx⟩;rcases h3 r _ hx with ⟨h,_⟩|⟨h,_⟩
  .cases h
  .exact⟨x,h⟩
 have hbx:∀id,(get S'.bx id).isSome->(get S.bx id).isSome:=by
  intro id hid;obtain⟨ls',hls⟩:=BG.1 hid;obtain⟨ls,h,_⟩:=h2 _ _ hls;simp[h]
 refine { CL:=?_,tms:=?_,bxs:=?_,dis:=?_,EO:=?_,Fa:=?_,E8:=?_,bxR:=?_,EM:=h.EM,rlt:=h.rlt,still:=h.still,defs:=h.defs,tsz:=h.tsz,pin:=?_}
 .intro r l' hl;rcases h3 r l' hl with ⟨rfl,hs⟩|⟨hs,hr⟩
  .obtain⟨l,hl⟩:=BG.1 hs;obtain⟨v,hv,_⟩:=h.CL _ _ hl;exact⟨v,hv,BR.top⟩
  .obtain⟨v,hv,hok⟩:=h.CL _ _ hs;refine⟨v,hv,hok.tr ?_ (fun _ _=>rfl) (fun _ _=>rfl) fun _ _=>rfl⟩;intro r1 hr1;obtain⟨x,hx⟩:=hok.alive hr1;exact⟨(hr r1 x hr1 hx).trans hx.symm,rfl,fun _ h=>h,fun _ _=>rfl⟩
 .intro s e' he;obtain⟨e,he1,he2,he3⟩:=h1 _ _ he;obtain⟨h5,h6,h7⟩:=h.tms _ _ he1;exact⟨h5,he2▸h6,h7.trans he3.symm⟩
 .intro id ls' hl;obtain⟨ls,hl1,hl2⟩:=h2 _ _ hl;obtain⟨h5,h6⟩:=h.bxs _ _ hl1;exact⟨h5,h6.trans hl2.symm⟩
 .exact fun r r' hr hr' hne=>h.dis r r' (hal _ hr) (hal _ hr') hne
 .exact fun r id hr hid=>h.EO r id (hal _ hr) (hbx _ hid)
 .exact fun r hr=>h.Fa r (hal _ hr)
 .exact fun id id' h1 h2=>h.E8 id id' (hbx _ h1) (hbx _ h2)
 .exact fun id h1=>h.bxR id (hbx _ h1)
 .intro p hp;obtain⟨h5,h6⟩:=h.pin p (h4▸hp);exact⟨h5,fun hs=>h6 (hbx _ hs)⟩
theorem Inv.kill(h:Inv F S g a w)(q:AN->Bool)(hq:∀x,q (.ow x)=false):Inv F (S.kill q) g a w:=by
 refine h.weaken ?_ ?_ ?_ rfl
 .grind[St.kill,Dz,Option.map_eq_some_iff,D1]
 .grind[St.kill,CZ,Option.map_eq_some_iff,D1]
 grind[F7,Option.map_eq_some_iff]
theorem Inv.out(h:Inv F S g a w){r:Bj}{x:T}(hx:S.at r=some (.ow x)):Inv F (S.out r) g a w:=by
 have hat:∀r',(S.out r).at r'=(if r'=r then some (.t .top) else S.at r').map fun l=>if JL r l then .t .top else l:=by
  intro r';rw[St.out,F7,Es hx]
 refine h.weaken ?_ ?_ ?_ ?_
 .grind[St.out,St.kill,Dz,Option.map_eq_some_iff,KT,D1]
 .grind[St.out,St.kill,CZ,Option.map_eq_some_iff,HU,D1]
 .grind[Option.map_eq_some_iff,JL,AN.BX]
 .rw[St.out];exact Fz
theorem G2{r r':Bj}{x:T}(hx:S.at r=some (.ow x)):Bl (S.out r) r'->r'≠r/\Bl S r':=by
 rintro⟨y,hy⟩;rw[St.out,F7,Es hx,AG]at hy;obtain⟨l,hl,hl2⟩:=hy;split at hl2
 .cases hl2
 .subst hl2;split at hl
  .cases hl
  .rename_i h;exact⟨h,y,hl⟩
theorem Inv.clean(h:Inv F S g a w)(ks:List Nat):Inv F (S.clean ks) g a w:=by
 have hat:∀r l',(S.clean ks).at r=some l'->∃l,S.at r=some l/\l'=(if Gg ks l then .t .top else l)/\(match r with|.tmp s _=>s∈ks|.cell b _=>b∈ks):=by
  grind[St.at,St.clean,Dz,FM,get,Em,Option.map_eq_some_iff,CZ]
 have hat2:∀r x,S.at r=some (.ow x)->(match r with|.tmp s _=>s∈ks|.cell b _=>b∈ks)->(S.clean ks).at r=some (.ow x):=by
  intro r x hx hr;cases r with
  |tmp s c=>
   simp only[St.at,St.clean,Dz,FM]at hx hr ⊢;simp only[hr,if_true];cases hg:get S.tm s with
   |none=>simp[hg]at hx|some e=>simp only[hg]at hx;simp[Em,hx,Gg,IY,AN.BX,AN.Iy]
  |cell b c=>
   simp only[St.at,St.clean,CZ,FM]at hx hr ⊢;simp only[hr,if_true];cases hg:get S.bx b with
   |none=>simp[hg]at hx|some e=>simp only[hg]at hx;simp[Em,hx,Gg,IY,AN.BX,AN.Iy]
 refine h.weaken ?_ ?_ ?_ rfl
 .intro s e' he;simp only[St.clean,Dz,FM,AG]at he;obtain⟨e,he,rfl⟩:=he;split at he
  .exact⟨e,he,rfl,D1 _ _⟩
  .cases he
 .intro id ls' hl;simp only[St.clean,CZ,FM,AG]at hl;obtain⟨e,he,rfl⟩:=hl;split at he
  .exact⟨e,he,D1 _ _⟩
  .cases he
 .intro r l' hl;obtain⟨l,h1,rfl,h3⟩:=hat r l' hl;split
  .exact .inl ⟨rfl,by simp[h1]⟩
  .rename_i hn;refine .inr ⟨h1,fun r1 x hr1 hx=>hat2 r1 x hx ?_⟩;cases r1 with
   |tmp s c=>
    simp only[Gg,hr1,B6,not_or,decide_eq_true_eq,Decidable.not_not]at hn;exact hn.1
   |cell b c=>
    have hb:l.Iy=some b:=o6 hr1;have:IY ks l=false:=by
     simp only[Gg,B6,not_or]at hn;simpa using hn.2
    cases l<;>simp_all[IY,AN.BX]
end moves
end Lv
namespace Lv
open Go
section
variable{F:Fix}{S S':St}{g g':Gh}{a a':Act}{w w':World}
def Ov(F:Fix)(S:St)(g:Gh)(cs:List AN)(nf:Nat->Blk):Prop:=
 ∀c x,cs[c]?=some (.ow x)->(∀b,nf c b->¬F.K b)/\(∀r,Bl S r->∀b,nf c b->¬g.fp r b)/\(∀id,(get S.bx id).isSome->¬nf c (g.β id)) /\
  ∀c' x',cs[c']?=some (.ow x')->c≠c'->∀b,nf c b->¬nf c' b
def Cells(F:Fix)(S:St)(g:Gh)(w:World)(cs:List AN)(vs:List Value)(nf:Nat->Blk):Prop:=
 vs.length=cs.length/\(∀c l,cs[c]?=some l->∃v,vs[c]?=some v/\BR F S g w (nf c) l v)/\Ov F S g cs nf
theorem py{d:Nat}{e:Ent}(r:Bj):({ S with tm:=put S.tm d e}:St).at r=match r with|.tmp s c=>if s=d then e.cs[c]? else S.at (.tmp s c)|.cell b c=>S.at (.cell b c):=by
 grind[St.at,ES]
def Gh.Ik(g:Gh)(d:Nat)(vs:List Value)(nf:Nat->Blk):Gh:=
 { g with tv:=fun s=>if s=d then vs else g.tv s,fp:=fun r=>match r with|.tmp s c=>if s=d then nf c else g.fp (.tmp s c)|.cell b c=>g.fp (.cell b c)}
theorem oG{d:Nat}{l:AN}(h:Dr d l=false){r:Bj}(hr:l.BX=some r):∀c,r≠.tmp d c:=by
 rintro c rfl;simp[Dr,hr]at h
theorem Inv.put(h:Inv F S g a w){d:Nat}{e:Ent}{vs:List Value}{nf:Nat->Blk}(hd:d<F.N)(hp:d∉S.pin)
 (hfree:∀r l,S.at r=some l->(∀c,r≠.tmp d c)->Dr d l=false) (hfe:∀l∈e.cs,Dr d l=false) (hc:Cells F S g w e.cs vs nf) :
 Inv F { S with tm:=put S.tm d e} (g.Ik d vs nf) (a.put (some d) (mkV e.sh vs)) w:=by
 obtain⟨hlen,hl,hown⟩:=hc;have hrv:∀r,(∀c,r≠.tmp d c)->(g.Ik d vs nf).rv r=g.rv r:=by
  intro r hr;cases r with
  |tmp s c=>
   have:s≠d:=by rintro rfl;exact hr c rfl
   simp[Gh.rv,Gh.Ik,this]
  |cell b c=>rfl
 have hfp:∀r,(∀c,r≠.tmp d c)->(g.Ik d vs nf).fp r=g.fp r:=by
  intro r hr;cases r with
  |tmp s c=>
   have:s≠d:=by rintro rfl;exact hr c rfl
   simp[Gh.Ik,this]
  |cell b c=>rfl
 have hat:∀r,(∀c,r≠.tmp d c)->({ S with tm:=Lv.put S.tm d e}:St).at r=S.at r:=by
  intro r hr;rw[py];cases r with
  |tmp s c=>
   have:s≠d:=by rintro rfl;exact hr c rfl
   simp[this]
  |cell b c=>rfl
 have tr:∀{fp:Blk} {l:AN} {v:Value},Dr d l=false->BR F S g w fp l v->BR F { S with tm:=Lv.put S.tm d e} (g.Ik d vs nf) w fp l v:=by
  intro fp l v hn hok;refine hok.tr ?_ (fun _ _=>rfl) (fun _ _=>rfl) fun _ _=>rfl
  intro r hr;have hne:=oG hn hr;exact⟨hat r hne,hrv r hne,fun b hb=>(hfp r hne).symm▸hb,fun _ _=>rfl⟩
 have tmpd:∀r:Bj,(∃c,r=Bj.tmp d c)\/∀c,r≠Bj.tmp d c:=by
  intro r;by_cases hx:∃c,r=.tmp d c
  .exact .inl hx
  .exact .inr fun c hc=>hx ⟨c,hc⟩
 have hald:∀c,Bl { S with tm:=Lv.put S.tm d e} (.tmp d c)->∃x,e.cs[c]?=some (.ow x):=by
  rintro c ⟨x,hx⟩;rw[py]at hx;exact⟨x,by simpa using hx⟩
 have hal:∀r,(∀c,r≠.tmp d c)->Bl { S with tm:=Lv.put S.tm d e} r->Bl S r:=by
  rintro r hr ⟨x,hx⟩;exact⟨x,(hat r hr)▸hx⟩
 have fpd:∀c,(g.Ik d vs nf).fp (.tmp d c)=nf c:=fun c=>by simp[Gh.Ik]
 refine { CL:=?_,tms:=?_,bxs:=h.bxs,dis:=?_,EO:=?_,Fa:=?_,E8:=h.E8,bxR:=h.bxR,EM:=h.EM,rlt:=h.rlt,still:=h.still,defs:=h.defs,tsz:=?_,pin:=?_}
 .intro r l hrl;rcases tmpd r with ⟨c,rfl⟩|hr
  .rw[py]at hrl;simp only[if_true]at hrl;obtain⟨v,hv,hok⟩:=hl c l hrl;refine⟨v,by simpa[Gh.rv,Gh.Ik] using hv,?_⟩;rw[fpd];exact tr (hfe l (AX hrl)) hok
  .rw[hat r hr]at hrl;obtain⟨v,hv,hok⟩:=h.CL r l hrl;refine⟨v,(hrv r hr).trans hv,?_⟩;rw[hfp r hr];exact tr (hfree r l hrl hr) hok
 .intro s e' he;simp only[ES]at he;by_cases hs:s=d
  .subst hs;simp only[if_true,AB]at he;subst he;refine⟨hd,?_,by simpa[Gh.Ik] using hlen⟩;simp[Act.put,Array.getD,Gh.Ik,h.tsz,hd]
  .simp only[if_neg hs]at he;obtain⟨h1,h2,h3⟩:=h.tms s e' he;refine⟨h1,?_,by simpa[Gh.Ik,hs] using h3⟩;have:({ a with tmps:=a.tmps.setIfInBounds d (mkV e.sh vs)}:Act).tmps.getD s undef=a.tmps.getD s undef:=by
    simp[Dd,Ne.symm hs]
   simpa[Act.put,Gh.Ik,hs] using this.trans h2
 .intro r r' hr hr' hne b hb hb';rcases tmpd r with ⟨c,rfl⟩|h1
  .obtain⟨x,hx⟩:=hald c hr;rw[fpd]at hb;rcases tmpd r' with ⟨c',rfl⟩|h2
   .obtain⟨x',hx'⟩:=hald c' hr';rw[fpd]at hb';exact(hown c x hx).2.2.2 c' x' hx' (by rintro rfl;exact hne rfl) b hb hb'
   .rw[hfp r' h2]at hb';exact(hown c x hx).2.1 r' (hal r' h2 hr') b hb hb'
  .rw[hfp r h1]at hb;rcases tmpd r' with ⟨c',rfl⟩|h2
   .obtain⟨x',hx'⟩:=hald c' hr';rw[fpd]at hb';exact(hown c' x' hx').2.1 r (hal r h1 hr) b hb' hb
   .rw[hfp r' h2]at hb';exact h.dis r r' (hal r h1 hr) (hal r' h2 hr') hne b hb hb'
 .intro r id hr hid hb;rcases tmpd r with ⟨c,rfl⟩|h1
  .obtain⟨x,hx⟩:=hald c hr;rw[fpd]at hb;exact(hown c x hx).2.2.1 id hid hb
  .rw[hfp r h1]at hb;exact h.EO r id (hal r h1 hr) hid hb
 .intro r hr b hb;rcases tmpd r with ⟨c,rfl⟩|h1
  .obtain⟨x,hx⟩:=hald c hr;rw[fpd]at hb;exact(hown c x hx).1 b hb
  .rw[hfp r h1]at hb;exact h.Fa r (hal r h1 hr) b hb
 .simp[Act.put,h.tsz]
 .intro p hpp;obtain⟨h1,h2⟩:=h.pin p hpp;have hne:d≠p:=by rintro rfl;exact hp hpp
  refine⟨?_,h2⟩;simp only[Act.put,Dd,Array.getElem?_setIfInBounds,if_neg hne];rw[Dd]at h1;exact h1
theorem Cells.kill{cs:List AN}{vs:List Value}{nf:Nat->Blk}(h:Cells F S g w cs vs nf)(q:AN->Bool)(hq:∀x,q (.ow x)=false) :
 Cells F (S.kill q) g w (DS q cs) vs nf:=by
 obtain⟨h1,h2,h3⟩:=h;have hal:∀r,Bl (S.kill q) r->Bl S r:=by
  rintro r ⟨x,hx⟩;rw[F7,AG]at hx;obtain⟨l,hl,hl2⟩:=hx;split at hl2
  .cases hl2
  .exact⟨x,hl2▸hl⟩
 have hal2:∀r x,S.at r=some (.ow x)->(S.kill q).at r=some (.ow x):=by
  intro r x hx;rw[F7,hx];simp[hq]
 have hbx:∀id,(get (S.kill q).bx id).isSome->(get S.bx id).isSome:=by
  intro id;simp[St.kill,CZ]
 have how:∀(c:Nat) (x:T),(DS q cs)[c]?=some (AN.ow x)->cs[c]?=some (AN.ow x):=by
  intro c x hx;rw[Em,AG]at hx;obtain⟨l,hl,hl2⟩:=hx;split at hl2
  .cases hl2
  .exact hl2▸hl
 refine⟨h1.trans (D1 _ _).symm,?_,?_⟩
 .intro c l hl;rw[Em,AG]at hl;obtain⟨l0,hl0,rfl⟩:=hl;obtain⟨v,hv,hok⟩:=h2 c l0 hl0;refine⟨v,hv,?_⟩;split
  .exact BR.top
  .refine hok.tr ?_ (fun _ _=>rfl) (fun _ _=>rfl) fun _ _=>rfl
   intro r hr;obtain⟨x,hx⟩:=hok.alive hr;exact⟨(hal2 r x hx).trans hx.symm,rfl,fun _ h=>h,fun _ _=>rfl⟩
 .intro c x hx;obtain⟨h4,h5,h6,h7⟩:=h3 c x (how c x hx)
  grind
theorem Inv.DJ(h:Inv F S g a w){d:Nat}{e:Ent}{vs:List Value}{nf:Nat->Blk}(hput:S.DJ d e=some S')(hd:d<F.N)(hc:Cells F S g w e.cs vs nf) :
 ∃g',Inv F S' g' (a.put (some d) (mkV e.sh vs)) w:=by
 unfold St.DJ at hput;split at hput
 .cases hput
 .rename_i hp;split at hput
  .rename_i hn;cases hput;have hno:∀{l:AN} {fp:Blk} {v:Value},BR F S g w fp l v->Dr d l=false:=by
    intro l fp v hok;cases hr:l.BX with
    |none=>simp[Dr,hr]|some r=>
     obtain⟨x,hx⟩:=hok.alive hr;cases r with
     |tmp s c=>
      have:s≠d:=by rintro rfl;simp[St.at,hn]at hx
      simp[Dr,hr,this]
     |cell b c=>simp[Dr,hr]
   refine⟨_,h.put hd hp ?_ ?_ hc⟩
   .intro r l hrl _;obtain⟨v,_,hok⟩:=h.CL r l hrl;exact hno hok
   .intro l hl;obtain⟨c,hc'⟩:=BE hl;obtain⟨v,_,hok⟩:=hc.2.1 c l hc';exact hno hok
  .cases hput;have hq:∀x,Dr d (.ow x)=false:=fun x=>rfl
   have hk:=hc.kill (Dr d) hq;have hnq:∀l,Dr d (if Dr d l then .t .top else l)=false:=by
    intro l;split
    .rfl
    .simp_all
   refine⟨_,(h.kill (Dr d) hq).put (e:=⟨e.sh,DS (Dr d) e.cs⟩) hd hp ?_ ?_ hk⟩
   .intro r l hrl _;rw[F7,AG]at hrl;obtain⟨l0,_,rfl⟩:=hrl;exact hnq l0
   .intro l hl;obtain⟨c,hc'⟩:=BE hl;rw[Em,AG]at hc';obtain⟨l0,_,rfl⟩:=hc';exact hnq l0
theorem BR.any{fp fp':Blk}{l:AN}{v:Value}(hn:∀x,l≠.ow x)(h:BR F S g w fp l v):BR F S g w fp' l v:=by
 match l,h with
 |.ow x,h=>exact(hn x rfl).elim|.al _ _,h=>exact h|.ep _ _ _,h=>exact h|.vw (.own _ _) _ _,h=>exact h|.vw (.old _) _ _,h=>exact h|.vp (.own _ _) _,h=>exact h|.vp (.old _) _,h=>exact h|.fn _ _,h=>exact h|.t _,h=>exact h|.und,h=>exact h|.bp _ _,h=>exact h
theorem Cells.free{cs:List AN}{vs:List Value}(hlen:vs.length=cs.length)(hl:∀(c:Nat) (l:AN),cs[c]?=some l->∃v,vs[c]?=some v/\BR F S g w (fun _=>False) l v)
 (hn:∀x,AN.ow x∉cs):Cells F S g w cs vs fun _ _=>False:=
 ⟨hlen,hl,fun _ x hx=>(hn x (AX hx)).elim⟩
theorem Inv.grow(h:Inv F S g a w)(hs:Still w w')(hw:∀b,b<w.heap.size->w'.heap[b]?=w.heap[b]?):Inv F S g a w':=by
 have hR:∀b,F.K b->w'.heap[b]?=w.heap[b]?:=fun b hb=>hw b (Az (h.rlt b hb) h.size)
 have hfp:∀r,Bl S r->∀b,g.fp r b->w'.heap[b]?=w.heap[b]?:=by
  rintro r ⟨x,hx⟩ b hb;obtain⟨v,_,hok⟩:=h.CL r _ hx;exact hw b (Own.lt hok b hb)
 refine { CL:=?_,tms:=h.tms,bxs:=?_,dis:=h.dis,EO:=h.EO,Fa:=h.Fa,E8:=h.E8,bxR:=h.bxR,EM:=?_,rlt:=h.rlt,still:=h.still.trans hs,defs:=h.defs,tsz:=h.tsz,pin:=h.pin}
 .intro r l hl;obtain⟨v,hv,hok⟩:=h.CL r l hl;by_cases how:∃x,l=.ow x
  .obtain⟨x,rfl⟩:=how;exact⟨v,hv,Own.frame hok (hfp r ⟨x,hl⟩)⟩
  .have hn:∀x,l≠.ow x:=fun x hx=>how ⟨x,hx⟩
   exact⟨v,hv,BR.any hn ((BR.any (fp':=fun _=>False) hn hok).tr (S':=S) (g':=g) (w':=w') (fun r1 hr1=>⟨rfl,rfl,fun _ h=>h,hfp r1 (hok.alive hr1)⟩) (fun _ _=>rfl) (fun _ h=>h.elim) hR)⟩
 .intro id ls hl;obtain⟨⟨E,hE⟩,h2⟩:=h.bxs id ls hl;exact⟨⟨E,(hw _ (Aj.1 hE).1).trans hE⟩,h2⟩
 .intro b hb;exact(hR b hb).trans (h.EM b hb)
theorem Inv.drawn(h:Inv F S g a w)(n:Nat):Inv F S g a { w with drawn:=n}:=h.grow (Still.drawn n) fun _ _=>rfl
end
section
variable{F:Fix}{S S':St}{g g':Gh}{a a':Act}{w w':World}
theorem Mk{x:T}{u v:Value}{fp:Blk}{sub:Option (Nat×Nat)}(h:Own w x u fp)(hs:AHn x sub u v):∃S0:Blk,(∀b,S0 b->fp b)/\Own w (Zq sub x) v S0:=by
 cases sub with
 |none=>
  simp only[AHn]at hs;subst hs;exact⟨fp,fun _ h=>h,by cases x<;>exact h⟩
 |some p=>
  obtain⟨lo,n⟩:=p;cases x with
  |sl e xs=>
   simp only[AHn]at hs;obtain⟨blk,off,len,cap,off',cap',rfl,rfl,h1,h2,h3,h4⟩|⟨rfl,rfl,rfl,rfl,rfl⟩:=hs
   case inr=>exact⟨fp,fun _ h=>h,by simpa[Zq,HD] using h⟩
   have hlen:len=xs.length/\len<=cap:=by
    cases h with
    |sc h _ _=>exact h.elim|sl c f h1 h2=>exact⟨h1,h2⟩
   exact h.sub (lo:=lo) (n:=n) (by omega) (by omega) (by omega) h3 h4
  |top=>obtain⟨rfl,_⟩:=hs;exact⟨fp,fun _ h=>h,h⟩
  |int k n=>obtain⟨rfl,_⟩:=hs;exact⟨fp,fun _ h=>h,h⟩
  |bool b=>obtain⟨rfl,_⟩:=hs;exact⟨fp,fun _ h=>h,h⟩
  |str s=>obtain⟨rfl,_⟩:=hs;exact⟨fp,fun _ h=>h,h⟩
  |nil=>obtain⟨rfl,_⟩:=hs;exact⟨fp,fun _ h=>h,h⟩
  |np=>obtain⟨rfl,_⟩:=hs;exact⟨fp,fun _ h=>h,h⟩
  |un=>obtain⟨rfl,_⟩:=hs;exact⟨fp,fun _ h=>h,h⟩
  |mp ks=>obtain⟨rfl,_⟩:=hs;exact⟨fp,fun _ h=>h,h⟩
theorem vP{r:Bj}{x:T}(hx:S.at r=some (.ow x)){r':Bj}{y:T}(hne:r'≠r)(hy:S.at r'=some (.ow y)):(S.out r).at r'=some (.ow y):=by
 rw[St.out,F7,Es hx,if_neg hne,hy];simp[JL,AN.BX]
theorem TD{r:Bj}{id:Nat}:(get (S.out r).bx id).isSome->(get S.bx id).isSome:=by
 grind[St.out,St.kill,CZ,Option.isSome_map,C6]
theorem gW{r:Bj}:(S.out r).pin=S.pin:=by rw[St.out];exact Fz
theorem BR.out{fp:Blk}{l:AN}{v:Value}(h:BR F S g w fp l v){r:Bj}{x:T}(hx:S.at r=some (.ow x))(hr:l.BX≠some r):BR F (S.out r) g w fp l v:=by
 refine h.tr ?_ (fun _ _=>rfl) (fun _ _=>rfl) fun _ _=>rfl
 intro r1 hr1;obtain⟨y,hy⟩:=h.alive hr1
 grind[vP]
structure LF(F:Fix)(S S':St)(g:Gh)(a:Act)(w:World):Prop where
 inv:Inv F S' g a w
 same:∀r x,S'.at r=some (.ow x)->S.at r=some (.ow x)
 bx:∀id,(get S'.bx id).isSome->(get S.bx id).isSome
 pin:S'.pin=S.pin
theorem LF.al(h:LF F S S' g a w):∀r,Bl S' r->Bl S r:=fun r ⟨x,hx⟩=>⟨x,h.same r x hx⟩
theorem Yj{r r':Bj}{x y:T}(hx:S.at r=some (.ow x))(hy:(S.out r).at r'=some (.ow y)):S.at r'=some (.ow y):=by
 grind[St.out,F7,Es,Option.map_eq_some_iff]
theorem AHR{ls ls':List AN}{vs:List Value}(h:Inv F S g a w)(hn:∀x,AN.ow x∉ls)(hlen:vs.length=ls.length)
 (hok:∀(c:Nat) (l:AN),ls[c]?=some l->∃v,vs[c]?=some v/\BR F S g w (fun _=>False) l v) (htk:KS ls=true) (ht:HN S ls=some (S',ls')) :
 LF F S S' g a w/\(∀fp l v,BR F S g w fp l v->(∀r sub,AN.al r sub∈ls->l.BX≠some r)->BR F S' g w fp l v) /\
 ∃nf:Nat->Blk,Cells F S' g w ls' vs nf/\∀c x,ls'[c]?=some (.ow x)->∃r,Bl S r/\∀b,nf c b->g.fp r b:=by
 induction ls generalizing S S' ls' vs with
 |nil=>
  simp only[HN,AB,Ag]at ht;obtain⟨rfl,rfl⟩:=ht;refine⟨⟨h,fun _ _ h=>h,fun _ h=>h,rfl⟩,fun _ _ _ h _=>h,fun _ _=>False,⟨hlen,?_,?_⟩,?_⟩
  .intro c l hl;simp at hl
  .intro c x hx;simp at hx
  .intro c x hx;simp at hx
 |cons l ls ih=>
  obtain⟨v,vs,rfl⟩:∃v vs',vs=v::vs':=by cases vs with|nil=>simp at hlen|cons v vs=>exact⟨v,vs,rfl⟩
  simp only[AM,FU]at hlen;simp only[KS,AD,List.all_eq_true,Bool.not_eq_true',GK,decide_eq_false_iff_not]at htk;obtain⟨htk1,htk2⟩:=htk;have hn':∀x,AN.ow x∉ls:=fun x hx=>hn x (Au _ hx)
  have hl0:BR F S g w (fun _=>False) l v:=by
   obtain⟨v',hv',hk⟩:=hok 0 l rfl;simp only[AI,AB]at hv';exact hv'▸hk
  by_cases hal:∃r sub,l=.al r sub
  .obtain⟨r,sub,rfl⟩:=hal;obtain⟨x,u,hx,hu,hsub⟩:=hl0;simp only[HN,hx]at ht;have hother:∀l'∈ls,l'.BX≠some r:=by
    intro l' hl' hr;rcases htk1 l' hl' with h1|h1
    .simp[fZ]at h1
    .exact h1 hr.symm
   split at ht
   .rename_i S1 ls1 heq;simp only[AB,Ag]at ht;obtain⟨rfl,rfl⟩:=ht;obtain⟨htaken,htr,nf,hcells,hnf⟩:=ih (S:=S.out r) (S':=S1) (ls':=ls1) (vs:=vs) (h.out hx) hn' hlen (by
     intro c l' hl';obtain⟨v',hv',hk⟩:=hok (c+1) l' (by simpa using hl');exact⟨v',by simpa using hv',hk.out hx (hother l' (AX hl'))⟩) htk2 heq
    have hown:Own w x u (g.fp r):=by
     obtain⟨u',hu',hk⟩:=h.CL r _ hx;rw[hu]at hu';cases hu';exact hk
    obtain⟨S0,hS0,hO⟩:=Mk hown hsub;refine⟨⟨htaken.inv,fun r' y hy=>Yj hx (htaken.same r' y hy),fun id hid=>TD (htaken.bx id hid),htaken.pin.trans gW⟩,?_,fun c=>match c with|0=>S0|c+1=>nf c,⟨?_,?_,?_⟩,?_⟩
    .intro fp l' v' hk hr';exact htr fp l' v' (hk.out hx (hr' r sub (by simp))) fun r2 sub2 hm=>hr' r2 sub2 (Au _ hm)
    .simpa using hcells.1
    .intro c l' hl';cases c with|zero=>simp only[AI,AB]at hl';subst hl';exact⟨v,rfl,hO⟩|succ c=>exact hcells.2.1 c l' (by simpa using hl')
    .have hself:(∀b,S0 b->¬F.K b)/\(∀r',Bl S1 r'->∀b,S0 b->¬g.fp r' b)/\(∀id,(get S1.bx id).isSome->¬S0 (g.β id)):=by
      refine⟨fun b hb=>h.Fa r ⟨x,hx⟩ b (hS0 b hb),fun r' hr' b hb=>?_,fun id hid hb=>?_⟩
      .have:=G2 hx (htaken.al r' hr');exact h.dis r r' ⟨x,hx⟩ this.2 (Ne.symm this.1) b (hS0 b hb)
      .exact h.EO r id ⟨x,hx⟩ (TD (htaken.bx id hid)) (hS0 _ hb)
     have hcross:∀c x',ls1[c]?=some (.ow x')->∀b,S0 b->¬nf c b:=by
      intro c x' hx' b hb hb';obtain⟨r',hr',hsubs⟩:=hnf c x' hx';have:=G2 hx hr';exact h.dis r r' ⟨x,hx⟩ this.2 (Ne.symm this.1) b (hS0 b hb) (hsubs b hb')
     intro c y hy;cases c with
     |zero=>
      refine⟨hself.1,hself.2.1,hself.2.2,?_⟩;intro c' x' hx' hne b hb;cases c' with
      |zero=>exact(hne rfl).elim|succ c'=>exact hcross c' x' (by simpa using hx') b hb
     |succ c=>
      obtain⟨h1,h2,h3,h4⟩:=hcells.2.2 c y (by simpa using hy);refine⟨h1,h2,h3,?_⟩;intro c' x' hx' hne b hb;cases c' with
      |zero=>exact fun hb'=>hcross c y (by simpa using hy) b hb' hb|succ c'=>exact h4 c' x' (by simpa using hx') (by omega) b hb
    .intro c y hy;cases c with
     |zero=>exact⟨r,⟨x,hx⟩,hS0⟩|succ c=>
      obtain⟨r',hr',hsubs⟩:=hnf c y (by simpa using hy);exact⟨r',(G2 hx hr').2,hsubs⟩
   .cases ht
  .have htg:HN S (l::ls)=match HN S ls with|some (S',ls')=>some (S',l::ls')|none=>none:=by
    cases l<;>first|rfl|exact(hal ⟨_,_,rfl⟩).elim
   rw[htg]at ht;split at ht
   .rename_i S1 ls1 heq;simp only[AB,Ag]at ht;obtain⟨rfl,rfl⟩:=ht;obtain⟨htaken,htr,nf,hcells,hnf⟩:=ih (S:=S) (S':=S1) (ls':=ls1) (vs:=vs) h hn' hlen (by
     intro c l' hl';obtain⟨v',hv',hk⟩:=hok (c+1) l' (by simpa using hl');exact⟨v',by simpa using hv',hk⟩) htk2 heq
    have hno:∀x,l≠.ow x:=by rintro x rfl;exact hn x (by simp)
    refine⟨htaken,?_,fun c=>match c with|0=>fun _=>False|c+1=>nf c,⟨by simpa using hcells.1,?_,?_⟩,?_⟩
    .intro fp l' v' hk hr';exact htr fp l' v' hk fun r2 sub2 hm=>hr' r2 sub2 (Au _ hm)
    .intro c l' hl';cases c with
     |zero=>
      simp only[AI,AB]at hl';subst hl';refine⟨v,rfl,htr _ _ _ hl0 ?_⟩;intro r sub hm hr;rcases htk1 _ hm with h1|h1
      .simp[fZ]at h1
      .exact h1 hr
     |succ c=>exact hcells.2.1 c l' (by simpa using hl')
    .intro c y hy;cases c with
     |zero=>simp only[AI,AB]at hy;exact(hno y hy).elim|succ c=>
      obtain⟨h1,h2,h3,h4⟩:=hcells.2.2 c y (by simpa using hy);refine⟨h1,h2,h3,?_⟩;intro c' x' hx' hne b hb;cases c' with
      |zero=>simp only[AI,AB]at hx';exact(hno x' hx').elim|succ c'=>exact h4 c' x' (by simpa using hx') (by omega) b hb
    .intro c y hy;cases c with|zero=>simp only[AI,AB]at hy;exact(hno y hy).elim|succ c=>exact hnf c y (by simpa using hy)
   .cases ht
end
section
variable{F:Fix}{S S':St}{g g':Gh}{a a':Act}{w w':World}
def Gh.EU(g:Gh)(d blk:Nat)(vs:List Value)(nf:Nat->Blk):Gh:=
 { g with β:=fun i=>if i=d then blk else g.β i,bv:=fun i=>if i=d then vs else g.bv i,fp:=fun r=>match r with|.cell b c=>if b=d then nf c else g.fp (.cell b c)|.tmp s c=>g.fp (.tmp s c)}
theorem Jd{d:Nat}{ls:List AN}(r:Bj):({ S with bx:=put S.bx d ls}:St).at r=match r with|.cell b c=>if b=d then ls[c]? else S.at (.cell b c)|.tmp s c=>S.at (.tmp s c):=by
 grind[St.at,ES]
theorem Inv.AAE(h:Inv F S g a w){d blk:Nat}{E:TypeId}{vs:List Value}{ls:List AN}{nf:Nat->Blk}
 (hs:Still w w') (hw:∀b,b≠blk->b<w.heap.size->w'.heap[b]?=w.heap[b]?) (hblk:w'.heap[blk]?=some (.cells vs.toArray E (0,0)))
 (hK:¬F.K blk) (hfpb:∀r,Bl S r->¬g.fp r blk) (hβ:∀id,id≠d->(get S.bx id).isSome->g.β id≠blk)
 (hnames:g.β d=blk\/(∀r l,S.at r=some l->(∀c,r≠.cell d c)->d∉names l)/\∀l∈ls,d∉names l)
 (hroots:∀l,(l∈ls\/∃r,S.at r=some l/\∀c,r≠.cell d c)->∀c x,l.BX=some (.cell d c)->S.at (.cell d c)=some (.ow x) ->
  ls[c]?=some (.ow x)/\vs[c]?=(g.bv d)[c]?/\∀b,g.fp (.cell d c) b->nf c b)
 (hlen:vs.length=ls.length) (hl:∀(c:Nat) (l:AN),ls[c]?=some l->∃v,vs[c]?=some v/\BR F S g w (nf c) l v)
 (hown:∀(c:Nat) x,ls[c]?=some (.ow x)->(∀b,nf c b->¬F.K b)/\(∀r,Bl S r->(∀c',r≠.cell d c')->∀b,nf c b->¬g.fp r b) /\
  (∀id,(get S.bx id).isSome->id≠d->¬nf c (g.β id))/\¬nf c blk/\∀(c':Nat) x',ls[c']?=some (.ow x')->c≠c'->∀b,nf c b->¬nf c' b)
 (hpin:d∈S.pin->(get S.bx d).isSome/\g.β d=blk):Inv F { S with bx:=Lv.put S.bx d ls} (g.EU d blk vs nf) a w':=by
 have tmpd:∀r:Bj,(∃c,r=Bj.cell d c)\/∀c,r≠Bj.cell d c:=by
  intro r;by_cases hx:∃c,r=Bj.cell d c
  .exact .inl hx
  .exact .inr fun c hc=>hx ⟨c,hc⟩
 have hrv:∀r,(∀c,r≠.cell d c)->(g.EU d blk vs nf).rv r=g.rv r:=by
  intro r hr;cases r with
  |tmp s c=>rfl|cell b c=>
   have:b≠d:=by rintro rfl;exact hr c rfl
   simp[Gh.rv,Gh.EU,this]
 have hfp:∀r,(∀c,r≠.cell d c)->(g.EU d blk vs nf).fp r=g.fp r:=by
  intro r hr;cases r with
  |tmp s c=>rfl|cell b c=>
   have:b≠d:=by rintro rfl;exact hr c rfl
   simp[Gh.EU,this]
 have hat:∀r,(∀c,r≠.cell d c)->({ S with bx:=Lv.put S.bx d ls}:St).at r=S.at r:=by
  intro r hr;rw[Jd];cases r with
  |tmp s c=>rfl|cell b c=>
   have:b≠d:=by rintro rfl;exact hr c rfl
   simp[this]
 have fpd:∀c,(g.EU d blk vs nf).fp (.cell d c)=nf c:=fun c=>by simp[Gh.EU]
 have hKw:∀b,F.K b->w'.heap[b]?=w.heap[b]?:=fun b hb=>hw b (by rintro rfl;exact hK hb) (Az (h.rlt b hb) h.size)
 have hfw:∀r,Bl S r->∀b,g.fp r b->w'.heap[b]?=w.heap[b]?:=by
  rintro r ⟨x,hx⟩ b hb;obtain⟨v,_,hok⟩:=h.CL r _ hx;exact hw b (by rintro rfl;exact hfpb r ⟨x,hx⟩ hb) (Own.lt hok b hb)
 have tr:∀{fp:Blk} {l:AN} {v:Value},(l∈ls\/∃r,S.at r=some l/\∀c,r≠.cell d c)->(∀x,l=.ow x->∀b,fp b->w'.heap[b]?=w.heap[b]?) ->
  BR F S g w fp l v->BR F { S with bx:=Lv.put S.bx d ls} (g.EU d blk vs nf) w' fp l v:=by
  intro fp l v hmem hfpw hok;by_cases how:∃x,l=.ow x
  .obtain⟨x,rfl⟩:=how;exact Own.frame hok (hfpw x rfl)
  .have hn:∀x,l≠.ow x:=fun x hx=>how ⟨x,hx⟩
   refine BR.any hn ((BR.any (fp':=fun _=>False) hn hok).tr ?_ ?_ (fun _ h=>h.elim) hKw)
   .intro r hr;obtain⟨x,hx⟩:=hok.alive hr;rcases tmpd r with ⟨c,rfl⟩|hne
    .obtain⟨h1,h2,h3⟩:=hroots l hmem c x hr hx;refine⟨?_,?_,?_,hfw _ ⟨x,hx⟩⟩
     .rw[Jd];simpa using h1.trans hx.symm
     .simpa[Gh.rv,Gh.EU] using h2
     .intro b hb;rw[fpd];exact h3 b hb
    .exact⟨hat r hne,hrv r hne,fun b hb=>(hfp r hne).symm▸hb,hfw r ⟨x,hx⟩⟩
   .intro id hid;by_cases hidd:id=d
    .subst hidd;rcases hnames with hb|⟨h1,h2⟩
     .simp[Gh.EU,hb]
     .rcases hmem with hm|⟨r,hr,hne⟩
      .exact(h2 l hm hid).elim
      .exact(h1 r l hr hne hid).elim
    .simp[Gh.EU,hidd]
 have hald:∀c,Bl { S with bx:=Lv.put S.bx d ls} (.cell d c)->∃x,ls[c]?=some (.ow x):=by
  rintro c ⟨x,hx⟩;rw[Jd]at hx;exact⟨x,by simpa using hx⟩
 have hal:∀r,(∀c,r≠.cell d c)->Bl { S with bx:=Lv.put S.bx d ls} r->Bl S r:=by
  rintro r hr ⟨x,hx⟩;exact⟨x,(hat r hr)▸hx⟩
 have hsome:∀id,id≠d->(get (Lv.put S.bx d ls) id).isSome->(get S.bx id).isSome:=by
  intro id hid hs;rw[ES,if_neg hid]at hs;exact hs
 have hβd:(g.EU d blk vs nf).β d=blk:=by simp[Gh.EU]
 have hβo:∀id,id≠d->(g.EU d blk vs nf).β id=g.β id:=fun id hid=>by simp[Gh.EU,hid]
 have hnlt:∀(c:Nat) x,ls[c]?=some (.ow x)->∀b,nf c b->w'.heap[b]?=w.heap[b]?:=by
  intro c x hx b hb;obtain⟨v,_,hok⟩:=hl c _ hx;exact hw b (by rintro rfl;exact(hown c x hx).2.2.2.1 hb) (Own.lt hok b hb)
 refine { CL:=?_,tms:=h.tms,bxs:=?_,dis:=?_,EO:=?_,Fa:=?_,E8:=?_,bxR:=?_,EM:=fun b hb=>(hKw b hb).trans (h.EM b hb),rlt:=h.rlt,still:=h.still.trans hs,defs:=h.defs,tsz:=h.tsz,pin:=?_}
 .intro r l hrl;rcases tmpd r with ⟨c,rfl⟩|hr
  .rw[Jd]at hrl;simp only[if_true]at hrl;obtain⟨v,hv,hok⟩:=hl c l hrl;refine⟨v,by simpa[Gh.rv,Gh.EU] using hv,?_⟩;rw[fpd];exact tr (.inl (AX hrl)) (by rintro x rfl;exact hnlt c x hrl) hok
  .rw[hat r hr]at hrl;obtain⟨v,hv,hok⟩:=h.CL r l hrl;refine⟨v,(hrv r hr).trans hv,?_⟩;rw[hfp r hr];exact tr (.inr ⟨r,hrl,hr⟩) (by rintro x rfl;exact hfw r ⟨x,hrl⟩) hok
 .intro id ls' hls;simp only[ES]at hls;by_cases hid:id=d
  .subst hid;simp only[if_true,AB]at hls;subst hls;exact⟨⟨E,by simpa[Gh.EU] using hblk⟩,by simpa[Gh.EU] using hlen⟩
  .simp only[if_neg hid]at hls;obtain⟨⟨E',hE⟩,h2⟩:=h.bxs id ls' hls;refine⟨⟨E',?_⟩,by simpa[Gh.EU,hid] using h2⟩;rw[hβo id hid,hw _ (hβ id hid (by simp[hls])) (Aj.1 hE).1,hE];simp[Gh.EU,hid]
 .intro r r' hr hr' hne b hb hb';rcases tmpd r with ⟨c,rfl⟩|h1
  .obtain⟨x,hx⟩:=hald c hr;rw[fpd]at hb;rcases tmpd r' with ⟨c',rfl⟩|h2
   .obtain⟨x',hx'⟩:=hald c' hr';rw[fpd]at hb';exact(hown c x hx).2.2.2.2 c' x' hx' (by rintro rfl;exact hne rfl) b hb hb'
   .rw[hfp r' h2]at hb';exact(hown c x hx).2.1 r' (hal r' h2 hr') h2 b hb hb'
  .rw[hfp r h1]at hb;rcases tmpd r' with ⟨c',rfl⟩|h2
   .obtain⟨x',hx'⟩:=hald c' hr';rw[fpd]at hb';exact(hown c' x' hx').2.1 r (hal r h1 hr) h1 b hb' hb
   .rw[hfp r' h2]at hb';exact h.dis r r' (hal r h1 hr) (hal r' h2 hr') hne b hb hb'
 .intro r id hr hid hb;by_cases hidd:id=d
  .subst hidd;rw[hβd]at hb;rcases tmpd r with ⟨c,rfl⟩|h1
   .obtain⟨x,hx⟩:=hald c hr;rw[fpd]at hb;exact(hown c x hx).2.2.2.1 hb
   .rw[hfp r h1]at hb;exact hfpb r (hal r h1 hr) hb
  .rw[hβo id hidd]at hb;rcases tmpd r with ⟨c,rfl⟩|h1
   .obtain⟨x,hx⟩:=hald c hr;rw[fpd]at hb;exact(hown c x hx).2.2.1 id (hsome id hidd hid) hidd hb
   .rw[hfp r h1]at hb;exact h.EO r id (hal r h1 hr) (hsome id hidd hid) hb
 .intro r hr b hb;rcases tmpd r with ⟨c,rfl⟩|h1
  .obtain⟨x,hx⟩:=hald c hr;rw[fpd]at hb;exact(hown c x hx).1 b hb
  .rw[hfp r h1]at hb;exact h.Fa r (hal r h1 hr) b hb
 .intro id id' h1 h2 he;by_cases hi:id=d
  .by_cases hi':id'=d
   .exact hi.trans hi'.symm
   .subst hi;rw[hβd,hβo id' hi']at he;exact(hβ id' hi' (hsome id' hi' h2) he.symm).elim
  .by_cases hi':id'=d
   .subst hi';rw[hβd,hβo id hi]at he;exact(hβ id hi (hsome id hi h1) he).elim
   .rw[hβo id hi,hβo id' hi']at he;exact h.E8 id id' (hsome id hi h1) (hsome id' hi' h2) he
 .intro id h1;by_cases hi:id=d
  .subst hi;rw[hβd];exact hK
  .rw[hβo id hi];exact h.bxR id (hsome id hi h1)
 .intro p hp;obtain⟨h1,h2⟩:=h.pin p hp;refine⟨h1,fun hsm=>?_⟩;by_cases hi:p=d
  .subst hi;rw[hβd];exact(hpin hp).2.symm.trans (h2 (hpin hp).1)
  .rw[hβo p hi];exact h2 (hsome p hi hsm)
end
theorem KQ{α:Type}(ls:List α)(o:Nat)(cs:List α):(C2 ls o cs).length=ls.length:=by
 induction cs generalizing ls o with
 |nil=>rfl|cons c cs ih=>simp[C2,ih]
theorem Ez{α:Type}(ls:List α)(o:Nat)(cs:List α)(h:o+cs.length<=ls.length)(c:Nat) :
 (C2 ls o cs)[c]?=if o<=c/\c<o+cs.length then cs[c-o]? else ls[c]?:=by
 induction cs generalizing ls o with
 |nil=>simp only[C2,AQ,CO];rw[if_neg (by omega)]|cons x cs ih=>
  grind[C2,List.length_cons]
theorem Jw{α:Type}(ls:List α)(o:Nat)(cs:List α)(h:o+cs.length<=ls.length):C2 ls o cs=ls.take o++cs++ls.drop (o+cs.length):=by
 apply List.ext_getElem?;intro c;rw[Ez ls o cs h,Bg,Ge,Ge]
 grind[List.length_take,min]
section
variable{F:Fix}{S S':St}{g g':Gh}{a a':Act}{w w':World}
theorem S7{d:Nat}{l:AN}(h:EN d l=false):d∉names l:=by
 cases l with
 |bp id off=>simp[EN,AN.Iy]at h;simp[names,Ne.symm h]|fn f caps=>
  grind[EN,List.any_eq_false,names,AN.Iy]
 |_=>simp[names]
theorem KN{d c:Nat}{l:AN}(h:EN d l=false):l.BX≠some (.cell d c):=by
 intro hr;have:=o6 hr;cases l<;>simp_all[EN,AN.BX]
theorem IV(q:AN->Bool)(hq:q (.t .top)=false){r:Bj}{l:AN}(h:(S.kill q).at r=some l):q l=false:=by
 grind[F7,Option.map_eq_some_iff]
theorem Mb(q:AN->Bool)(hq:q (.t .top)=false){ls:List AN}{l:AN}(h:l∈DS q ls):q l=false:=by
 grind[List.getElem?_of_mem,Em,Option.map_eq_some_iff]
theorem Cells.grow{cs:List AN}{vs:List Value}{nf:Nat->Blk}(h:Inv F S g a w)(hc:Cells F S g w cs vs nf)
 (hw:∀b,b<w.heap.size->w'.heap[b]?=w.heap[b]?):Cells F S g w' cs vs nf:=by
 refine⟨hc.1,?_,hc.2.2⟩;intro c l hl;obtain⟨v,hv,hok⟩:=hc.2.1 c l hl;refine⟨v,hv,?_⟩;have hfp:∀r,Bl S r->∀b,g.fp r b->w'.heap[b]?=w.heap[b]?:=by
  rintro r ⟨x,hx⟩ b hb;obtain⟨v,_,hok⟩:=h.CL r _ hx;exact hw b (Own.lt hok b hb)
 by_cases how:∃x,l=.ow x
 .obtain⟨x,rfl⟩:=how;exact Own.frame hok fun b hb=>hw b (Own.lt hok b hb)
 .have hn:∀x,l≠.ow x:=fun x hx=>how ⟨x,hx⟩
  exact BR.any hn ((BR.any (fp':=fun _=>False) hn hok).tr (S':=S) (g':=g) (w':=w') (fun r1 hr1=>⟨rfl,rfl,fun _ h=>h,hfp r1 (hok.alive hr1)⟩) (fun _ _=>rfl) (fun _ h=>h.elim)
   fun b hb=>hw b (Az (h.rlt b hb) h.size))
def World.push(w:World)(o:Obj):World:={ w with heap:=w.heap.push o}
theorem Dx{o:Obj}{b:Nat}(hb:b<w.heap.size):(World.push w o).heap[b]?=w.heap[b]?:=by
 show (w.heap.push o)[b]?=_;rw[Eo,if_neg (JT hb)]
theorem I8{o:Obj}:(World.push w o).heap[w.heap.size]?=some o:=by
 show (w.heap.push o)[w.heap.size]?=_;rw[Eo,if_pos rfl]
theorem Still.push{o:Obj}:Still w (World.push w o):=Still.alloc
def JK(d:Nat)(l:AN):Bool:=Dr d l||EN d l
theorem Inv.AFM(h:Inv F S g a w){d:Nat}(hd:d<F.N)(hp:d∉S.pin){cs:List AN}{vs:List Value}{nf:Nat->Blk}(hc:Cells F S g w cs vs nf)(E:TypeId) :
 ∃g',Inv F { S.kill (JK d) with tm:=Lv.put (S.kill (JK d)).tm d ⟨.one,[.bp d 0]⟩,bx:=Lv.put (S.kill (JK d)).bx d (DS (JK d) cs)} g'
  (a.put (some d) (.pointer (some ⟨w.heap.size,0,none⟩))) (World.push w (.cells vs.toArray E (0,0))):=by
 have hq:∀x,JK d (.ow x)=false:=fun x=>rfl
 have hqt:JK d (.t .top)=false:=rfl;have hoff:∀{l},JK d l=false->EN d l=false/\Dr d l=false:=by
  intro l hl;simp only[JK,Bool.or_eq_false_iff]at hl;exact⟨hl.2,hl.1⟩
 have h1:=h.kill (JK d) hq;have hc1:=hc.kill (JK d) hq;have hlt:∀r,Bl (S.kill (JK d)) r->¬g.fp r w.heap.size:=by
  rintro r ⟨x,hx⟩ hb;obtain⟨v,_,hok⟩:=h1.CL r _ hx;exact Gr _ (Own.lt hok _ hb)
 have hnlt:∀(c:Nat) x,(DS (JK d) cs)[c]?=some (.ow x)->¬nf c w.heap.size:=by
  intro c x hx hb;obtain⟨v,_,hok⟩:=hc1.2.1 c _ hx;exact Gr _ (Own.lt hok _ hb)
 have h2:=h1.AAE (d:=d) (blk:=w.heap.size) (E:=E) (vs:=vs) (ls:=DS (JK d) cs) (nf:=nf) (w':=World.push w (.cells vs.toArray E (0,0)))
  Still.push (fun b _ hb=>Dx hb) I8 (fun hK=>Gr _ (Az (h.rlt _ hK) h.size)) hlt
  (by
   intro id _ hid he;obtain⟨ls,hls⟩:=BG.1 hid;obtain⟨⟨E',hE⟩,_⟩:=h1.bxs id ls hls;rw[he]at hE;simp at hE)
  (.inr ⟨fun r l hl _=>S7 (hoff (IV _ hqt hl)).1,fun l hl=>S7 (hoff (Mb _ hqt hl)).1⟩)
  (by
   rintro l (hl|⟨r,hl,_⟩) c x hr _
   .exact(KN (hoff (Mb _ hqt hl)).1 hr).elim
   .exact(KN (hoff (IV _ hqt hl)).1 hr).elim)
  hc1.1 hc1.2.1 (fun c x hx=>⟨(hc1.2.2 c x hx).1,fun r hr _=>(hc1.2.2 c x hx).2.1 r hr,fun id hid _=>(hc1.2.2 c x hx).2.2.1 id hid,hnlt c x hx,(hc1.2.2 c x hx).2.2.2⟩)
  (fun hpp=>(hp hpp).elim)
 refine⟨_,h2.put (d:=d) (e:=⟨.one,[.bp d 0]⟩) (vs:=[.pointer (some ⟨w.heap.size,0,none⟩)]) (nf:=fun _ _=>False) hd hp ?_ ?_ ?_⟩
 .intro r l hl _;rw[Jd]at hl;cases r with
  |tmp s c=>exact(hoff (IV _ hqt hl)).2|cell b c=>
   simp only at hl;split at hl
   .exact(hoff (Mb _ hqt (AX hl))).2
   .exact(hoff (IV _ hqt hl)).2
 .simp[Dr,AN.BX]
 .refine Cells.free rfl ?_ (by simp);intro c l hl;cases c with|zero=>simp only[AI,AB]at hl;subst hl;exact⟨_,rfl,by show _=_;simp[Gh.EU]⟩|succ c=>simp at hl
theorem pE{blk:Nat}{cur new:Array Value}{E:TypeId}(h:w.heap[blk]?=some (.cells cur E (0,0))):(w.setRow blk new).heap[blk]?=some (.cells new E (0,0)):=by
 simp[World.setRow,ET,h]
theorem setRow_other{blk b:Nat}{new:Array Value}(h:b≠blk):(w.setRow blk new).heap[b]?=w.heap[b]?:=by
 simp[World.setRow,ET,Ne.symm h]
theorem Inv.AHK(h:Inv F S g a w){cs:List AN}{vs:List Value}{nf:Nat->Blk}(hc:Cells F S g w cs vs nf){id o:Nat}{ls:List AN}
 (hls:get (S.kill (GI id o cs.length)).bx id=some ls) (hle:o+cs.length<=ls.length) :
 ∃g',Inv F { S.kill (GI id o cs.length) with bx:=Lv.put (S.kill (GI id o cs.length)).bx id (C2 ls o (DS (GI id o cs.length) cs))} g' a
  (w.setRow (g.β id) ((g.bv id).take o++vs++(g.bv id).drop (o+vs.length)).toArray):=by
 generalize hqd:GI id o cs.length=q at *;have hq:∀x,q (.ow x)=false:=fun x=>by subst hqd;rfl
 have hqt:q (.t .top)=false:=by subst hqd;rfl
 have h1:=h.kill q hq;have hc1:=hc.kill q hq;have hroot:∀{l:AN} {c:Nat},q l=false->l.BX=some (.cell id c)->¬(o<=c/\c<o+cs.length):=by
  intro l c hl hr hb;subst hqd;simp only[GI,hr,decide_true,Bool.true_and,GK,decide_eq_false_iff_not]at hl;omega
 obtain⟨⟨E,hE⟩,hlen⟩:=h1.bxs id ls hls;have hsome:(get (S.kill q).bx id).isSome:=by simp[hls]
 have hkl:(DS q cs).length=cs.length:=D1 _ _;have hvl:vs.length=cs.length:=hc.1;have hbl:o+vs.length<=(g.bv id).length:=by omega
 have hget:∀c,(C2 ls o (DS q cs))[c]?=if o<=c/\c<o+cs.length then (DS q cs)[c-o]? else ls[c]?:=by
  intro c;rw[Ez _ _ _ (by omega),hkl]
 have hgetv:∀c,((g.bv id).take o++vs++(g.bv id).drop (o+vs.length))[c]?=if o<=c/\c<o+cs.length then vs[c-o]? else (g.bv id)[c]?:=by
  intro c;rw[<-Jw _ _ _ hbl,Ez _ _ _ hbl,hvl]
 have hatc:∀c,(S.kill q).at (.cell id c)=ls[c]?:=by intro c;simp[St.at,hls]
 have hlen2:((g.bv id).take o++vs++(g.bv id).drop (o+vs.length)).length=(C2 ls o (DS q cs)).length:=by
  rw[<-Jw _ _ _ hbl,KQ,KQ,hlen]
 let nf':Nat->Blk:=fun c=>if o<=c/\c<o+cs.length then nf (c-o) else g.fp (.cell id c)
 have hcase:∀(c:Nat) x,(C2 ls o (DS q cs))[c]?=some (.ow x) ->
  (o<=c/\c<o+cs.length/\(DS q cs)[c-o]?=some (.ow x)/\nf' c=nf (c-o))\/(¬(o<=c/\c<o+cs.length)/\(S.kill q).at (.cell id c)=some (.ow x)/\nf' c=g.fp (.cell id c)):=by
  intro c x hx;rw[hget]at hx;by_cases hr:o<=c/\c<o+cs.length
  .rw[if_pos hr]at hx;exact .inl ⟨hr.1,hr.2,hx,by simp[nf',hr]⟩
  .rw[if_neg hr]at hx;exact .inr ⟨hr,(hatc c).trans hx,by simp only[nf',if_neg hr]⟩
 refine⟨_,h1.AAE (d:=id) (blk:=g.β id) (E:=E) (nf:=nf') Still.setRow (fun b hb _=>setRow_other hb) (pE hE) (h1.bxR id hsome)
  (fun r hr=>h1.EO r id hr hsome) (fun id' hne hs he=>hne (h1.E8 id' id hs hsome he)) (.inl rfl) ?_ hlen2 ?_ ?_ (fun _=>⟨hsome,rfl⟩)⟩
 .intro l hl c x hr hx;have hql:q l=false:=by
   rcases hl with hl|⟨r,hl,_⟩
   .obtain⟨c',hc'⟩:=BE hl;rw[hget]at hc';split at hc'
    .exact Mb _ hqt (AX hc')
    .exact IV _ hqt ((hatc c').trans hc')
   .exact IV _ hqt hl
  have hout:=hroot hql hr;refine⟨?_,?_,?_⟩
  .rw[hget,if_neg hout,<-hatc];exact hx
  .rw[hgetv,if_neg hout]
  .intro b hb;simp only[nf',if_neg hout];exact hb
 .intro c l hl;rw[hget]at hl;by_cases hr:o<=c/\c<o+cs.length
  .rw[if_pos hr]at hl;obtain⟨v,hv,hok⟩:=hc1.2.1 _ _ hl;exact⟨v,by rw[hgetv,if_pos hr];exact hv,by simp only[nf',if_pos hr];exact hok⟩
  .rw[if_neg hr]at hl;obtain⟨v,hv,hok⟩:=h1.CL (.cell id c) l ((hatc c).trans hl);exact⟨v,by rw[hgetv,if_neg hr];exact hv,by simp only[nf',if_neg hr];exact hok⟩
 .intro c x hx;rcases hcase c x hx with ⟨h3,h4,h5,h6⟩|⟨h3,h4,h6⟩
  .obtain⟨p1,p2,p3,p4⟩:=hc1.2.2 _ _ h5;rw[h6];refine⟨p1,fun r hr _=>p2 r hr,fun id' hs _=>p3 id' hs,p3 id hsome,?_⟩;intro c' x' hx' hne b hb;rcases hcase c' x' hx' with ⟨k3,k4,k5,k6⟩|⟨k3,k4,k6⟩
   .rw[k6];exact p4 _ _ k5 (by omega) b hb
   .rw[k6];exact p2 _ ⟨_,k4⟩ b hb
  .rw[h6];refine⟨h1.Fa _ ⟨_,h4⟩,fun r hr hne=>h1.dis _ _ ⟨_,h4⟩ hr (Ne.symm (hne c)),fun id' hs _=>h1.EO _ _ ⟨_,h4⟩ hs,h1.EO _ _ ⟨_,h4⟩ hsome,?_⟩;intro c' x' hx' hne b hb;rcases hcase c' x' hx' with ⟨k3,k4,k5,k6⟩|⟨k3,k4,k6⟩
   .rw[k6];exact fun hb'=>(hc1.2.2 _ _ k5).2.1 _ ⟨_,h4⟩ b hb' hb
   .rw[k6];exact h1.dis _ _ ⟨_,h4⟩ ⟨_,k4⟩ (by simpa using hne) b hb
theorem Inv.gm(h:Inv F S g a w){r:Bj}{e:Nat}{xs ys:List (List T)}{u:Value}{fp':Blk}(hx:S.at r=some (.ow (.sl e xs)))(hu:g.rv r=some u)(hl:ys.length=xs.length)
 (hs:Still w w') (hw:∀b,b<w.heap.size->¬g.fp r b->w'.heap[b]?=w.heap[b]?) (hown:Own w' (.sl e ys) u fp') (hK:∀b,fp' b->¬F.K b)
 (hdis:∀r',Bl S r'->r'≠r->∀b,fp' b->¬g.fp r' b) (hB:∀id,(get S.bx id).isSome->¬fp' (g.β id)) :
 Inv F ((S.BT r (.ow (.sl e ys))).kill (EE r)) { g with fp:=fun r'=>if r'=r then fp' else g.fp r'} a w':=by
 have hat:∀r',((S.BT r (.ow (.sl e ys))).kill (EE r)).at r'=(if r'=r then some (.ow (.sl e ys)) else S.at r').map fun l=>if EE r l then .t .top else l:=by
  intro r';rw[F7,Es hx]
 have hal:∀r',Bl ((S.BT r (.ow (.sl e ys))).kill (EE r)) r'->Bl S r':=by
  rintro r' ⟨x,hx'⟩;rw[hat,AG]at hx';obtain⟨l,hl1,hl2⟩:=hx';split at hl2
  .cases hl2
  .subst hl2;split at hl1
   .subst_vars;exact⟨_,hx⟩
   .exact⟨x,hl1⟩
 have hsome:∀id,(get ((S.BT r (.ow (.sl e ys))).kill (EE r)).bx id).isSome->(get S.bx id).isSome:=by
  intro id hid;simp only[St.kill,CZ,HG]at hid
  rwa[C6]at hid
 have hKw:∀b,F.K b->w'.heap[b]?=w.heap[b]?:=fun b hb=>hw b (Az (h.rlt b hb) h.size) fun hf=>h.Fa r ⟨_,hx⟩ b hf hb
 have hfw:∀r',Bl S r'->r'≠r->∀b,g.fp r' b->w'.heap[b]?=w.heap[b]?:=by
  rintro r' ⟨x,hx'⟩ hne b hb;obtain⟨v,_,hok⟩:=h.CL r' _ hx';exact hw b (Own.lt hok b hb) (h.dis r' r ⟨x,hx'⟩ ⟨_,hx⟩ hne b hb)
 let g':Gh:={ g with fp:=fun r'=>if r'=r then fp' else g.fp r'}
 have hg'r:g'.fp r=fp':=by simp[g']
 have hg'o:∀r',r'≠r->g'.fp r'=g.fp r':=fun r' hne=>by simp[g',hne]
 have tr:∀{fp:Blk} {l:AN} {v:Value},EE r l=false->(∀x,l≠.ow x)->BR F S g w fp l v->BR F ((S.BT r (.ow (.sl e ys))).kill (EE r)) g' w' fp l v:=by
  intro fp l v hin hno hok;by_cases hr:l.BX=some r
  .match l,hok with
   |.al r1 sub,⟨x,u1,h1,h2,h3⟩=>
    cases hr;rw[hx]at h1;cases h1;refine⟨.sl e ys,u1,by rw[hat,if_pos rfl];rfl,h2,?_⟩;cases sub with
    |none=>exact h3|some p=>
     obtain⟨lo,n⟩:=p;obtain⟨blk,off,len,cap,off',cap',q1,q2,q3,q4⟩|⟨q1,q2,rfl,q4⟩:=h3
     .exact .inl ⟨blk,off,len,cap,off',cap',q1,q2,by omega,q4⟩
     .exact .inr ⟨q1,q2,List.eq_nil_of_length_eq_zero (by simpa using hl),q4⟩
   |.ep r1 i j,⟨e1,xs1,blk,off,len,cap,h1,h2,h3,h4⟩=>
    cases hr;rw[hx]at h1;cases h1;exact⟨e,ys,blk,off,len,cap,by rw[hat,if_pos rfl];rfl,h2,by omega,h4⟩
   |.vw (.own r1 _) e1 xs1,_=>cases hr;simp[EE]at hin
   |.vp (.own r1 _) cs1,_=>cases hr;simp[EE]at hin
  .refine BR.any hno ((BR.any (fp':=fun _=>False) hno hok).tr ?_ (fun _ _=>rfl) (fun _ h=>h.elim) hKw);intro r1 hr1;obtain⟨x,hx1⟩:=hok.alive hr1;have hne:r1≠r:=by rintro rfl;exact hr hr1
   refine⟨?_,rfl,fun b hb=>by rw[hg'o r1 hne];exact hb,hfw r1 ⟨x,hx1⟩ hne⟩;rw[hat,if_neg hne,hx1];rfl
 show Inv F _ g' a w';refine { CL:=?_,tms:=?_,bxs:=?_,dis:=?_,EO:=?_,Fa:=?_,E8:=fun id id' h1 h2=>h.E8 id id' (hsome id h1) (hsome id' h2),bxR:=fun id h1=>h.bxR id (hsome id h1),EM:=fun b hb=>(hKw b hb).trans (h.EM b hb),rlt:=h.rlt,still:=h.still.trans hs,defs:=h.defs,tsz:=h.tsz,pin:=?_}
 .intro r' l hl;rw[hat,AG]at hl;obtain⟨l0,hl1,hl2⟩:=hl;by_cases hr:r'=r
  .subst hr;rw[if_pos rfl]at hl1;cases hl1;simp only[EE,if_false,Bool.false_eq_true]at hl2;subst hl2;exact⟨u,hu,by rw[hg'r];exact hown⟩
  .rw[if_neg hr]at hl1;obtain⟨v,hv,hok⟩:=h.CL r' l0 hl1;refine⟨v,hv,?_⟩;split at hl2
   .subst hl2;exact BR.top
   .rename_i hin;subst hl2;by_cases how:∃x,l0=.ow x
    .obtain⟨x,rfl⟩:=how;rw[hg'o r' hr];exact Own.frame hok (hfw r' ⟨x,hl1⟩ hr)
    .have hno:∀x,l0≠.ow x:=fun x hx=>how ⟨x,hx⟩
     exact BR.any hno (tr (by simpa using hin) hno hok)
 .intro s e' he;simp only[St.kill,Dz,AG]at he;obtain⟨e1,he1,rfl⟩:=he;obtain⟨e0,h1,h2,h3⟩:=KT he1;obtain⟨p1,p2,p3⟩:=h.tms s e0 h1;exact⟨p1,by rw[p2,h2],by rw[p3,D1,h3]⟩
 .intro id ls' hls;simp only[St.kill,CZ,AG]at hls;obtain⟨l1,hl1,rfl⟩:=hls;obtain⟨l0,h1,h2⟩:=HU hl1;obtain⟨⟨E,hE⟩,p2⟩:=h.bxs id l0 h1;refine⟨⟨E,(hw _ (Aj.1 hE).1 fun hf=>h.EO r id ⟨_,hx⟩ (by simp[h1]) hf).trans hE⟩,by rw[p2,D1,h2]⟩
 .intro r1 r2 h1 h2 hne b hb hb';by_cases e1:r1=r
  .subst e1;rw[hg'r]at hb;rw[hg'o r2 (Ne.symm hne)]at hb';exact hdis r2 (hal r2 h2) (Ne.symm hne) b hb hb'
  .rw[hg'o r1 e1]at hb;by_cases e2:r2=r
   .subst e2;rw[hg'r]at hb';exact hdis r1 (hal r1 h1) e1 b hb' hb
   .rw[hg'o r2 e2]at hb';exact h.dis r1 r2 (hal r1 h1) (hal r2 h2) hne b hb hb'
 .intro r1 id h1 hid hb;by_cases e1:r1=r
  .subst e1;rw[hg'r]at hb;exact hB id (hsome id hid) hb
  .rw[hg'o r1 e1]at hb;exact h.EO r1 id (hal r1 h1) (hsome id hid) hb
 .intro r1 h1 b hb;by_cases e1:r1=r
  .subst e1;rw[hg'r]at hb;exact hK b hb
  .rw[hg'o r1 e1]at hb;exact h.Fa r1 (hal r1 h1) b hb
 .intro p hp;have hpp:p∈S.pin:=by
   have:((S.BT r (.ow (.sl e ys))).kill (EE r)).pin=S.pin:=Fz
   rwa[this]at hp
  obtain⟨h1,h2⟩:=h.pin p hpp;exact⟨h1,fun hs=>h2 (hsome p hs)⟩
theorem Inv.AG5(h:Inv F S g a w){r:Bj}{e:Nat}{xs ys:List (List T)}{u:Value}{fp':Blk}(hx:S.at r=some (.ow (.sl e xs)))(hu:g.rv r=some u)(hl:ys.length=xs.length)
 (hs:Still w w') (hw:∀b,b<w.heap.size->¬g.fp r b->w'.heap[b]?=w.heap[b]?) (hown:Own w' (.sl e ys) u fp') (hK:∀b,fp' b->¬F.K b)
 (hdis:∀r',Bl S r'->r'≠r->∀b,fp' b->¬g.fp r' b) (hB:∀id,(get S.bx id).isSome->¬fp' (g.β id)) :
 ∃g',Inv F ((S.BT r (.ow (.sl e ys))).kill (EE r)) g' a w':=⟨_,h.gm hx hu hl hs hw hown hK hdis hB⟩
end
section
variable{F:Fix}{S S':St}{g g':Gh}{a a':Act}{w w':World}
theorem jD{rows:List (List T)}{i j:Nat}{x y:T}(h:at2 rows i j=some y)(i' j':Nat):at2 (Gy rows i j x) i' j'=if i'=i/\j'=j then some x else at2 rows i' j':=by
 grind[at2,List.getElem?_eq_some_iff,List.getD,Gy]
theorem MA{rows:List (List T)}{i j:Nat}{x:T}:(Gy rows i j x).length=rows.length:=by simp[Gy]
theorem cL{rows:List (List T)}{i j e:Nat}{x:T}(h:∀row∈rows,row.length=e)(hi:i<rows.length):∀row∈Gy rows i j x,row.length=e:=by
 intro row hr;rcases List.mem_or_eq_of_mem_set hr with hr|rfl
 .exact h row hr
 grind[List.length_set,List.getD]
theorem Own.hole{e:Nat}{rows:List (List T)}{blk off len cap:Nat}{fp:Blk}{i j:Nat}{y:T}{v:Value}(h:Own w (.sl e rows) (.slice (some ⟨blk,off,none⟩) len cap) fp)(hy:at2 rows i j=some y)
 (hv:w.cell? ⟨blk,off+i*e+j,none⟩=some v) :
 ∃S0 fp':Blk,Own w y v S0/\Own w (.sl e (Gy rows i j .top)) (.slice (some ⟨blk,off,none⟩) len cap) fp'/\(∀b,S0 b->fp b)/\(∀b,fp' b->fp b)/\∀b,S0 b->¬fp' b:=by
 cases h with
 |sc h _ _=>exact h.elim|sl c f h1 h2 h3 h4 h5 h6 h7 h8 h9 h10=>
  have hc:c i j=v:=by
   rw[h4.cell,h6 i j y hy]at hv;exact Option.some.inj hv
  subst hc;have hown:=h7 i j y hy;have hi:=cz hy;have hat:∀i' j' x,at2 (Gy rows i j .top) i' j'=some x->(i'=i/\j'=j/\x=.top)\/(¬(i'=i/\j'=j)/\at2 rows i' j'=some x):=by
   intro i' j' x hx;rw[jD hy]at hx;split at hx
   .rename_i hh;exact .inl ⟨hh.1,hh.2,(Option.some.inj hx).symm⟩
   .rename_i hh;exact .inr ⟨hh,hx⟩
  refine⟨f i j,fun b=>b=blk\/∃i' j' x,at2 (Gy rows i j .top) i' j'=some x/\(if i'=i/\j'=j then fun _=>False else f i' j') b,hown,
   .sl c (fun i' j'=>if i'=i/\j'=j then fun _=>False else f i' j') (by rw[MA];exact h1) h2 (cL h3 hi) h4 h5 ?_ ?_ ?_ ?_ (fun b=>Iff.rfl),?_,?_,?_⟩
  .intro i' j' x hx;rcases hat i' j' x hx with ⟨rfl,rfl,rfl⟩|⟨hh,hx'⟩
   .exact h6 _ _ _ hy
   .exact h6 _ _ _ hx'
  .intro i' j' x hx;rcases hat i' j' x hx with ⟨rfl,rfl,rfl⟩|⟨hh,hx'⟩
   .exact .sc trivial hown.one (by simp)
   .rw[if_neg hh];exact h7 _ _ _ hx'
  .intro i' j' x hx;rcases hat i' j' x hx with ⟨rfl,rfl,rfl⟩|⟨hh,hx'⟩
   .simp
   .rw[if_neg hh];exact h8 _ _ _ hx'
  .intro i1 j1 x1 i2 j2 x2 hx1 hx2 hne b hb;rcases hat i1 j1 x1 hx1 with ⟨rfl,rfl,rfl⟩|⟨hh,hx1'⟩
   .simp at hb
   .rw[if_neg hh]at hb;rcases hat i2 j2 x2 hx2 with ⟨rfl,rfl,rfl⟩|⟨hh2,hx2'⟩
    .simp
    .rw[if_neg hh2];exact h9 _ _ _ _ _ _ hx1' hx2' hne b hb
  .intro b hb;exact(h10 b).2 (.inr ⟨i,j,y,hy,hb⟩)
  .rintro b (rfl|⟨i',j',x,hx,hb⟩)
   .exact(h10 _).2 (.inl rfl)
   .rcases hat i' j' x hx with ⟨rfl,rfl,rfl⟩|⟨hh,hx'⟩
    .simp at hb
    .rw[if_neg hh]at hb;exact(h10 b).2 (.inr ⟨i',j',x,hx',hb⟩)
  .rintro b hb (rfl|⟨i',j',x,hx,hb'⟩)
   .exact h8 i j y hy hb
   .rcases hat i' j' x hx with ⟨rfl,rfl,rfl⟩|⟨hh,hx'⟩
    .simp at hb'
    .rw[if_neg hh]at hb';exact h9 i j y i' j' x hy hx' (by rintro rfl rfl;exact hh ⟨rfl,rfl⟩) b hb hb'
def AAZ(x x':T):Prop:=x'=x\/∃e xs xs',x=.sl e xs/\x'=.sl e xs'/\xs'.length=xs.length
theorem AAZ.trans{x y z:T}(h:AAZ x y)(h':AAZ y z):AAZ x z:=by
 rcases h with rfl|⟨e,xs,ys,rfl,rfl,hl⟩
 .exact h'
 .rcases h' with rfl|⟨e',xs',zs,h1,rfl,hl'⟩
  .exact .inr ⟨e,xs,ys,rfl,rfl,hl⟩
  .cases h1;exact .inr ⟨e,xs,zs,rfl,rfl,hl'.trans hl⟩
structure Gm(F:Fix)(S S':St)(g g':Gh)(a:Act)(w:World):Prop where
 inv:Inv F S' g' a w
 nz:∀r x',S'.at r=some (.ow x')->∃x,S.at r=some (.ow x)/\AAZ x x'
 bx:∀id,(get S'.bx id).isSome->(get S.bx id).isSome
 pin:S'.pin=S.pin
 tv:g'.tv=g.tv
 bv:g'.bv=g.bv
 β:g'.β=g.β
 fp:∀r b,g'.fp r b->g.fp r b
theorem LF.toG(h:LF F S S' g a w):Gm F S S' g g a w:=⟨h.inv,fun r x hx=>⟨x,h.same r x hx,.inl rfl⟩,h.bx,h.pin,rfl,rfl,rfl,fun _ _ h=>h⟩
theorem Gm.al(h:Gm F S S' g g' a w):∀r,Bl S' r->Bl S r:=fun r ⟨x,hx⟩=>let ⟨y,hy,_⟩:=h.nz r x hx;⟨y,hy⟩
theorem Gm.rv(h:Gm F S S' g g' a w)(r:Bj):g'.rv r=g.rv r:=by cases r<;>simp[Gh.rv,h.tv,h.bv]
theorem Gm.trans{S2:St}{g2:Gh}(h:Gm F S S' g g' a w)(h':Gm F S' S2 g' g2 a w):Gm F S S2 g g2 a w:=
 ⟨h'.inv,fun r x hx=>let ⟨y,hy,hl⟩:=h'.nz r x hx;let ⟨z,hz,hl'⟩:=h.nz r y hy;⟨z,hz,hl'.trans hl⟩,fun id hid=>h.bx id (h'.bx id hid),h'.pin.trans h.pin,h'.tv.trans h.tv,h'.bv.trans h.bv,h'.β.trans h.β,fun r b hb=>h.fp r b (h'.fp r b hb)⟩
theorem cV(h:Inv F S g a w){r:Bj}{x:T}(hx:S.at r=some (.ow x)):LF F S (S.out r) g a w:=
 ⟨h.out hx,fun _ _ hy=>Yj hx hy,fun _ hid=>TD hid,gW⟩
theorem BR.off{fp:Blk}{l:AN}{v:Value}(h:BR F S g w fp l v){r:Bj}(hr:l.BX≠some r)(hS:∀r',r'≠r->Bl S r'->S'.at r'=S.at r')(hg:∀r',r'≠r->g'.fp r'=g.fp r')(ht:∀r',g'.rv r'=g.rv r')(hβ:g'.β=g.β):BR F S' g' w fp l v:=by
 refine h.tr ?_ (fun _ _=>by rw[hβ]) (fun _ _=>rfl) fun _ _=>rfl
 intro r1 hr1;have hne:r1≠r:=by rintro rfl;exact hr hr1
 exact⟨hS r1 hne (h.alive hr1),ht r1,fun b hb=>by rw[hg r1 hne];exact hb,fun _ _=>rfl⟩
theorem KK{r:Bj}{i j:Nat}(hp:S.pull r i j=some S'):∃e rows,S.at r=some (.ow (.sl e rows))/\S'=(S.BT r (.ow (.sl e (Gy rows i j .top)))).kill (EE r):=by
 grind[St.pull,Option.some.inj]
theorem Kr{r:Bj}{e:Nat}{rows ys:List (List T)}(hx:S.at r=some (.ow (.sl e rows)))(r':Bj) :
 ((S.BT r (.ow (.sl e ys))).kill (EE r)).at r'=(if r'=r then some (.ow (.sl e ys)) else S.at r').map fun l=>if EE r l then .t .top else l:=by
 rw[F7,Es hx]
theorem bz{r:Bj}{e:Nat}{rows ys:List (List T)}(hx:S.at r=some (.ow (.sl e rows)))(hl:ys.length=rows.length) :
 ∀r' x',((S.BT r (.ow (.sl e ys))).kill (EE r)).at r'=some (.ow x')->∃x,S.at r'=some (.ow x)/\AAZ x x':=by
 intro r' x' hx';rw[Kr hx,AG]at hx';obtain⟨l,hl1,hl2⟩:=hx';split at hl2
 .cases hl2
 .subst hl2;split at hl1
  .subst_vars
   cases hl1;exact⟨_,hx,.inr ⟨e,rows,ys,rfl,rfl,hl⟩⟩
  .exact⟨x',hl1,.inl rfl⟩
theorem AI4{r:Bj}{e:Nat}{rows ys:List (List T)}(hx:S.at r=some (.ow (.sl e rows))) :
 ∀r',r'≠r->Bl S r'->((S.BT r (.ow (.sl e ys))).kill (EE r)).at r'=S.at r':=by
 rintro r' hne ⟨x,hx'⟩;rw[Kr hx,if_neg hne,hx'];rfl
theorem AI5{r:Bj}{l:AN}{id:Nat}(h:(get ((S.BT r l).kill (EE r)).bx id).isSome):(get S.bx id).isSome:=by
 simp only[St.kill,CZ,HG]at h
 rwa[C6]at h
theorem oO{r:Bj}{l:AN}:((S.BT r l).kill (EE r)).pin=S.pin:=Fz
theorem Inv.pull(h:Inv F S g a w){r:Bj}{i j e:Nat}{xs:List (List T)}{v:Value}(hp:S.pull r i j=some S')(hl:AtC S g w r (some (i,j)) e xs v) :
 ∃(S0:Blk) (g':Gh),Gm F S S' g g' a w/\Own w (.sl e xs) v S0/\(∀b,S0 b->g.fp r b)/\(∀b,S0 b->¬g'.fp r b)/\(∀r',r'≠r->g'.fp r'=g.fp r') /\
  (∀r',r'≠r->Bl S r'->S'.at r'=S.at r')/\Bl S r:=by
 obtain⟨e0,rows,hx,rfl⟩:=KK hp;obtain⟨e1,rows1,blk,off,len,cap,k1,k2,k3,k4,k5⟩:=hl;rw[hx]at k1;cases k1;obtain⟨u,hu,hown⟩:=h.CL r _ hx;rw[k2]at hu;cases hu;obtain⟨S0,fp',o1,o2,o3,o4,o5⟩:=Own.hole hown k3 k5;have hinv:=h.gm (w':=w) (ys:=Gy rows i j .top) (fp':=fp') hx k2 MA Still.refl (fun _ _ _=>rfl) o2 (fun b hb=>h.Fa r ⟨_,hx⟩ b (o4 b hb)) (fun r' hr' hne b hb=>h.dis r r' ⟨_,hx⟩ hr' (Ne.symm hne) b (o4 b hb))
  (fun id hid hb=>h.EO r id ⟨_,hx⟩ hid (o4 _ hb))
 refine⟨S0,_,⟨hinv,bz hx MA,fun id hid=>AI5 hid,oO,rfl,rfl,rfl,?_⟩,o1,o3,?_,?_,AI4 hx,⟨_,hx⟩⟩
 .grind
 .grind
 grind
theorem gV{r:Bj}{ls:List AN}(h:onR r ls=false):∀l∈ls,l.BX≠some r:=by
 induction ls with
 |nil=>simp|cons l ls ih=>
  grind[onR,Bool.or_eq_false_iff,decide_eq_false_iff_not]
def ADI(F:Fix)(S:St)(g:Gh)(w:World)(cs:List T)(vs:List Value)(nf:Nat->Blk):Prop:=
 vs.length=cs.length/\(∀(c:Nat) x,cs[c]?=some x->∃v,vs[c]?=some v/\Own w x v (nf c)) /\
  (∀c b,c<cs.length->nf c b->¬F.K b)/\(∀c r b,c<cs.length->Bl S r->nf c b->¬g.fp r b)/\(∀c id,c<cs.length->(get S.bx id).isSome->¬nf c (g.β id)) /\
  ∀c c' b,c<cs.length->c'<cs.length->c≠c'->nf c b->¬nf c' b
theorem RZ{ls:List AN}{cs:List T}{vs:List Value}(h:Inv F S g a w)(hn:∀x,AN.ow x∉ls)(hlen:vs.length=ls.length)
 (hok:∀(c:Nat) (l:AN),ls[c]?=some l->∃v,vs[c]?=some v/\(∀r,l.BX=some r->Bl S r->BR F S g w (fun _=>False) l v)/\(l.BX=none->BR F S g w (fun _=>False) l v))
 (ht:Cx S ls=some (S',cs)) :
 ∃g',Gm F S S' g g' a w /\
 ∃nf:Nat->Blk,ADI F S' g' w cs vs nf/\∀c b,c<cs.length->nf c b->∃l r,ls[c]?=some l/\l.BX=some r/\Bl S r/\g.fp r b:=by
 induction ls generalizing S S' g cs vs with
 |nil=>
  simp only[Cx,AB,Ag]at ht;obtain⟨rfl,rfl⟩:=ht;exact⟨g,LF.toG ⟨h,fun _ _ h=>h,fun _ h=>h,rfl⟩,fun _ _=>False,⟨hlen,by simp,by simp,by simp,by simp,by simp⟩,by simp⟩
 |cons l ls ih=>
  obtain⟨v,vs,rfl⟩:∃v vs',vs=v::vs':=by cases vs with|nil=>simp at hlen|cons v vs=>exact⟨v,vs,rfl⟩
  simp only[AM,FU]at hlen;have hn':∀x,AN.ow x∉ls:=fun x hx=>hn x (Au _ hx)
  obtain⟨v0,hv0,hroot,hnone⟩:=hok 0 l rfl;simp only[AI,AB]at hv0;subst hv0;have step:∀(r:Bj) (_:l.BX=some r) (y:T) (S0:Blk) (S1 S2:St) (g1:Gh) (cs1:List T),Gm F S S1 g g1 a w->Bl S r->(∀b,S0 b->g.fp r b)->(∀b,S0 b->Bl S1 r->¬g1.fp r b)->(∀l'∈ls,∀v',(∀r',l'.BX=some r'->Bl S r'->BR F S g w (fun _=>False) l' v')->(l'.BX=none->BR F S g w (fun _=>False) l' v') ->
   (∀r',l'.BX=some r'->Bl S1 r'->BR F S1 g1 w (fun _=>False) l' v')/\(l'.BX=none->BR F S1 g1 w (fun _=>False) l' v'))->Own w y v S0->Cx S1 ls=some (S2,cs1) ->
   ∃g2,Gm F S S2 g g2 a w/\∃nf:Nat->Blk,ADI F S2 g2 w (y::cs1) (v::vs) nf/\∀c b,c<(y::cs1).length->nf c b->∃l' r,(l::ls)[c]?=some l'/\l'.BX=some r/\Bl S r/\g.fp r b:=by
   intro r hlr y S0 S1 S2 g1 cs1 hT1 hal hS0 hdis hleaf hO heq;obtain⟨g2,hT2,nf,hT,hnf⟩:=ih (S:=S1) (S':=S2) (g:=g1) (cs:=cs1) (vs:=vs) hT1.inv hn' hlen (by
    intro c l' hl';obtain⟨v',hv',hk1,hk2⟩:=hok (c+1) l' (by simpa using hl');have:=hleaf l' (AX hl') v' hk1 hk2;exact⟨v',by simpa using hv',this.1,this.2⟩) heq
   obtain⟨t1,t2,t3,t4,t5,t6⟩:=hT;have hTT:=hT1.trans hT2;have hS0':∀r' b,Bl S2 r'->S0 b->¬g2.fp r' b:=by
    intro r' b hr' hb hb';have hb1:=hT2.fp r' b hb';have hal1:=hT2.al r' hr';by_cases hrr:r'=r
    .subst hrr;exact hdis b hb hal1 hb1
    .exact h.dis r r' hal (hT1.al r' hal1) (Ne.symm hrr) b (hS0 b hb) (hT1.fp r' b hb1)
   refine⟨g2,hTT,fun c=>match c with|0=>S0|c+1=>nf c,⟨by simpa using t1,?_,?_,?_,?_,?_⟩,?_⟩
   .intro c y' hy';cases c with|zero=>simp only[AI,AB]at hy';subst hy';exact⟨v,rfl,hO⟩|succ c=>exact t2 c y' (by simpa using hy')
   .intro c b hc hb;cases c with|zero=>exact h.Fa r hal b (hS0 b hb)|succ c=>exact t3 c b (by simpa using hc) hb
   .intro c r' b hc hr' hb;cases c with|zero=>exact hS0' r' b hr' hb|succ c=>exact t4 c r' b (by simpa using hc) hr' hb
   .intro c id hc hid hb;cases c with|zero=>rw[hTT.β]at hb;exact h.EO r id hal (hTT.bx id hid) (hS0 _ hb)|succ c=>exact t5 c id (by simpa using hc) hid hb
   .have hcross:∀c b,c<cs1.length->S0 b->¬nf c b:=by
     intro c b hc hb hb';obtain⟨_,r',_,_,hr',hf⟩:=hnf c b hc hb';by_cases hrr:r'=r
     .subst hrr;exact hdis b hb hr' hf
     .exact h.dis r r' hal (hT1.al r' hr') (Ne.symm hrr) b (hS0 b hb) (hT1.fp r' b hf)
    intro c c' b hc hc' hne hb;cases c with
    |zero=>
     cases c' with
     |zero=>exact(hne rfl).elim|succ c'=>exact hcross c' b (by simpa using hc') hb
    |succ c=>
     cases c' with
     |zero=>exact fun hb'=>hcross c b (by simpa using hc) hb' hb|succ c'=>exact t6 c c' b (by simpa using hc) (by simpa using hc') (by omega) hb
   .intro c b hc hb;cases c with
    |zero=>exact⟨l,r,rfl,hlr,hal,hS0 b hb⟩|succ c=>
     obtain⟨l',r',hl',hlr',hr',hf⟩:=hnf c b (by simpa using hc) hb;exact⟨l',r',by simpa using hl',hlr',hT1.al r' hr',hT1.fp r' b hf⟩
  have stepO:∀(r:Bj) (_:l.BX=some r) (x y:T) (S0:Blk) (S1:St) (cs1:List T),S.at r=some (.ow x)->(∀b,S0 b->g.fp r b)->Own w y v S0->Cx (S.out r) ls=some (S1,cs1) ->
   ∃g2,Gm F S S1 g g2 a w/\∃nf:Nat->Blk,ADI F S1 g2 w (y::cs1) (v::vs) nf/\∀c b,c<(y::cs1).length->nf c b->∃l' r,(l::ls)[c]?=some l'/\l'.BX=some r/\Bl S r/\g.fp r b:=by
   intro r hlr x y S0 S1 cs1 hx hS0 hO heq;refine step r hlr y S0 (S.out r) S1 g cs1 (cV h hx).toG ⟨x,hx⟩ hS0 (fun b _ hal=>absurd rfl (G2 hx hal).1) ?_ hO heq;intro l' _ v' hk1 hk2;refine⟨?_,fun hr=>(hk2 hr).out hx (by simp[hr])⟩;intro r' hr' hal;have:=G2 hx hal;exact(hk1 r' hr' this.2).out hx (by rw[hr'];simpa using this.1)
  cases l with
  |t x=>
   simp only[Cx]at ht;split at ht
   .cases ht
   .rename_i htop;split at ht
    .rename_i S1 cs1 heq;simp only[AB,Ag]at ht;obtain⟨rfl,rfl⟩:=ht;obtain⟨g1,htaken,nf,hT,hnf⟩:=ih (S:=S) (S':=S1) (g:=g) (cs:=cs1) (vs:=vs) h hn' hlen (by
      intro c l' hl';obtain⟨v',hv',hk⟩:=hok (c+1) l' (by simpa using hl');exact⟨v',by simpa using hv',hk⟩) heq
     obtain⟨t1,t2,t3,t4,t5,t6⟩:=hT;have hsc:Sc x v:=hnone rfl;refine⟨g1,htaken,fun c=>match c with|0=>fun _=>False|c+1=>nf c,⟨by simpa using t1,?_,?_,?_,?_,?_⟩,?_⟩
     .intro c y' hy';cases c with|zero=>simp only[AI,AB]at hy';subst hy';exact⟨v,rfl,.sc hsc (hsc.one (by simpa using htop)) fun _ h=>h⟩|succ c=>exact t2 c y' (by simpa using hy')
     .intro c b hc hb;cases c with|zero=>exact hb.elim|succ c=>exact t3 c b (by simpa using hc) hb
     .intro c r' b hc hr' hb;cases c with|zero=>exact hb.elim|succ c=>exact t4 c r' b (by simpa using hc) hr' hb
     .intro c id hc hid hb;cases c with|zero=>exact hb.elim|succ c=>exact t5 c id (by simpa using hc) hid hb
     .intro c c' b hc hc' hne hb;cases c with
      |zero=>exact hb.elim|succ c=>
       cases c' with
       |zero=>exact fun hb'=>hb'.elim|succ c'=>exact t6 c c' b (by simpa using hc) (by simpa using hc') (by omega) hb
     .intro c b hc hb;cases c with|zero=>exact hb.elim|succ c=>exact hnf c b (by simpa using hc) hb
    .cases ht
  |al r sub=>
   simp only[Cx]at ht;split at ht
   .rename_i x hx;split at ht
    .rename_i S1 cs1 heq;simp only[AB,Ag]at ht;obtain⟨rfl,rfl⟩:=ht;obtain⟨x',u,hx',hu,hsub⟩:=hroot r rfl ⟨x,hx⟩;rw[hx]at hx';cases hx';have hown:Own w x u (g.fp r):=by
      obtain⟨u',hu',hk⟩:=h.CL r _ hx;rw[hu]at hu';cases hu';exact hk
     obtain⟨S0,hS0,hO⟩:=Mk hown hsub;exact stepO r rfl x _ S0 S1 cs1 hx hS0 hO heq
    .cases ht
   .cases ht
  |vw s e xs=>
   cases s with
   |old k=>simp[Cx]at ht|own r p=>
    cases p with
    |none=>
     simp only[Cx]at ht;split at ht
     .rename_i x hx;split at ht
      .rename_i S1 cs1 heq;simp only[AB,Ag]at ht;obtain⟨rfl,rfl⟩:=ht;obtain⟨_,⟨S0,hS0,hO⟩,_⟩:=hroot r rfl ⟨x,hx⟩;exact stepO r rfl x _ S0 S1 cs1 hx hS0 hO heq
      .cases ht
     .cases ht
    |some q=>
     obtain⟨i,j⟩:=q;simp only[Cx]at ht;split at ht
     .cases ht
     .rename_i hon;split at ht
      .rename_i S1 hpl;split at ht
       .rename_i S2 cs1 heq;simp only[AB,Ag]at ht;obtain⟨rfl,rfl⟩:=ht;obtain⟨e0,rows,hx,_⟩:=KK hpl;obtain⟨_,_,hat⟩:=hroot r rfl ⟨_,hx⟩;obtain⟨S0,g1,q1,q2,q3,q4,q5,q6,q7⟩:=h.pull hpl hat;refine step r rfl _ S0 S1 S2 g1 cs1 q1 q7 q3 (fun b hb _=>q4 b hb) ?_ q2 heq;intro l' hl' v' hk1 hk2;have hne:=gV (by simpa using hon) l' hl';exact⟨fun r' hr' hal=>(hk1 r' hr' (q1.al r' hal)).off hne q6 q5 q1.rv q1.β,fun hr=>(hk2 hr).off hne q6 q5 q1.rv q1.β⟩
       .cases ht
      .cases ht
  |ow x=>exact(hn x (by simp)).elim|und=>simp[Cx]at ht|ep _ _ _=>simp[Cx]at ht|vp s cs=>simp[Cx]at ht|bp _ _=>simp[Cx]at ht|fn _ _=>simp[Cx]at ht
end
end Lv
