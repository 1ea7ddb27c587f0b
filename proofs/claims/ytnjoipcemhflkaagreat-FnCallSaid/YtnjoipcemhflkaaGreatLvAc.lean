/- The light machine is right about the program's code. -/
import GoSem.Core.Value
import GoSem.Core.Ast
import GoSem.Core.View
import Derived.Calls
import Derived.Laws.CopyRow
import Derived.Laws.IdiomCopy
import GoSem.Dispatch
import Derived.Orders
set_option linter.unusedVariables false
set_option linter.unusedSimpArgs false
set_option linter.unusedSectionVars false
open Array renaming getD_eq_getD_getElem?->EA,getElem?_eq_some_iff->Av,getElem?_modify->FF,getElem?_push->Fl
open Bool renaming and_eq_false_iff->Hp,and_eq_true->AF,and_true->CA,or_eq_true->CT
open List renaming append_assoc->Bv,getElem?_append->IB,getElem?_cons_zero->AM,getElem?_eq_some_iff->AO,getElem?_of_mem->BT,getElem?_set->DZ,length_cons->AI,length_nil->AP,mem_cons_of_mem->Aq,mem_of_getElem?->Ai
open Nat renaming add_right_cancel_iff->Gn,add_zero->Cm,le_refl->Ab,lt_irrefl->IY,lt_of_lt_of_le->BF,ne_of_lt->Mm
open Option renaming isSome_iff_exists->BV,isSome_map->JP,map_eq_some_iff->AK
open Option.some renaming injEq->AD
open Prod.mk renaming injEq->Au
@[reducible] def AA.{u} (α:Type u):=Option α
namespace Lv
open Go (IntKind BinOp UnOp)
inductive T where
 |top|un|int(k:IntKind)(n:Int)|bool(b:Bool)|str(s:List UInt8)|nil|np|sl(e:Nat)(xs:List (List T))|mp(ks:List (Int×Int))
inductive B0 where
 |tmp(s c:Nat)|cell(b c:Nat)
 deriving DecidableEq
inductive Src where
 |own(r:B0)(p:Option (Nat×Nat))|old(k:Nat)
 deriving DecidableEq
inductive Md where
 |v|p|b|o|m
 deriving DecidableEq
inductive Sh where
 |one|agg|tup(ns:List (Option Nat))|ptr(k:Nat)|vw(k:Nat)
inductive Kd where
 |i|b|s
 deriving DecidableEq
inductive Cls where
 |num|bool|sl|agg(ks:List Kd)
 deriving DecidableEq
mutual
inductive Opd where
 |tmp(t:Nat)|k(x:T)|fn(f:B3)
inductive XOp where
 |mv(d:Nat)(x:Opd)|as(d:Nat)(x:Opd)|pick(d:Nat)(c a b:Opd)|alloc(d:Nat)(zs:List T)|box(d:Nat)(x:Opd)|build(d:Nat)(zs:List T)(parts:List (Nat×Nat×Opd))|Br(d:Nat)(n:Nat)(zs:List T)(parts:List (Nat×Opd))|ld(d:Nat)(n:Option Nat)(x:Opd)|st(n:Nat)(x v:Opd)|chk(d:Nat)(x:Opd)|bin(d:Nat)(c:Cls)(op:BinOp)(x y:Opd)|un(d:Nat)(op:UnOp)(x:Opd)|cvI(d:Nat)(k:IntKind)(x:Opd)|QW(d:Nat)(x:Opd)|Rt(d:Nat)(x:Opd)|N2(d:Nat)(f:B3)(caps:List Opd)|Ux(d:Nat)(zs:List T)(n c:Opd)|sub(d:Nat)(e:Nat)(x:Opd)(lo hi:Option Opd)|VF(d:Nat)(x:Opd)(lo hi:Option Opd)|fa(d:Nat)(off:Nat)(x:Opd)|fld(d:Nat)(off:Nat)(n:Option Nat)(x:Opd)|ia(d:Nat)(e:Nat)(x i:Opd)|ix(d:Nat)(x i:Opd)|ext(d:Nat)(x:Opd)(i:Nat)|call(d:Nat)(f:B3)(args:List Opd)|D8(d:Nat)(f:Opd)(ms:List Md)(args:List Opd)|len(d:Nat)(x:Opd)|lens(d:Nat)(x:Opd)|app(d:Nat)(e:Nat)(fl:Bool)(x y:Opd)|Tv(d:Nat)(zs:List T)(x n:Opd)|cpy(d:Nat)(e:Nat)(x y:Opd)|mm(d:Nat)(isMax:Bool)(x y:Opd)|mmk(d:Nat)|Tw(d:Nat)(x k:Opd)|Sg(x k v:Opd)|Tx(d:Nat)(x:Opd)|bad(d:Option Nat)|drop(ds:List Nat)|Uz(ns:List (B0×Nat))
inductive Rf where
 |nil|op(i:Nat)(g:Option (Nat×Bool))(sf:List Nat)(o:XOp)(rest:Rf)|dr(ds:List Nat)(rest:Rf)|nl(ns:List (B0×Nat))(rest:Rf)|both(a b:Rf)
inductive NZ where
 |skip|region(ops:List (Option (Nat×Bool)×XOp))(E4:List Nat)|Pj(r:Rf)(E4:List Nat)|seq(a b:NZ)|cond(c:Nat)(kt ke:List Nat)(t e:NZ)|block(id:Nat)(b:NZ)|loop(b:NZ)|exit(id:Nat)|ret|scope(b:NZ)|or(a b:NZ)|dead
inductive G7 where
 |tmp(t:Nat)|cell(t:Nat)(n:Option Nat)|bx(t:Nat)|vw(t k:Nat)|un(t n:Nat)
inductive B3 where
 |mk(ms:List Md)(rs:List G7)(body:NZ)|Mf(id:Nat)(ms:List Md)
end
end Lv
namespace Lv
open Go (IntKind BinOp UnOp)
inductive AS where
 |t(x:T)|und|ow(x:T)|al(r:B0)(sub:Option (Nat×Nat))|ep(r:B0)(i j:Nat)|vw(s:Src)(e:Nat)(xs:List (List T))|vp(s:Src)(cs:List T)|bp(id off:Nat)|fn(f:B3)(caps:List AS)
structure Ent where
 sh:Sh
 cs:List AS
structure St where
 tm:List (Nat×Ent)
 bx:List (Nat×List AS)
 pin:List Nat:=[]
inductive V where
 |v(sh:Sh)(cs:List T)|f(xf:B3)(caps:List V)|p(cs:List T)|b(cs:List T)|o(sh:Sh)(cs:List T)|m(sh:Sh)(cs:List T)
abbrev Rel:=B3->List V->Sh->List T->List (List T)->Prop
def get{α:Type}:List (Nat×α)->Nat->Option α| [],_=>none|(k,a)::r,s=>if k=s then some a else get r s
def put{α:Type}:List (Nat×α)->Nat->α->List (Nat×α)| [],s,a=>[(s,a)]|(k,b)::r,s,a=>if s=k then (s,a)::r else if s<k then (s,a)::(k,b)::r else (k,b)::put r s a
def Fx{α:Type}(ks:List Nat):List (Nat×α)->List (Nat×α)| []=>[]|(k,b)::r=>if k∈ks then (k,b)::Fx ks r else Fx ks r
def AS.Bm:AS->Option B0|.al r _|.ep r _ _|.vw (.own r _) _ _|.vp (.own r _) _=>some r|_=>none
def AS.Ll:AS->Option Nat|.bp id _=>some id|.al (.cell id _) _|.ep (.cell id _) _ _|.vw (.own (.cell id _) _) _ _|.vp (.own (.cell id _) _) _=>some id|_=>none
def AS.plain:AS->Bool|.t _|.und|.vw (.old _) _ _|.vp (.old _) _|.bp _ _=>true|_=>false
def Dx(q:AS->Bool):List AS->List AS| []=>[]|l::ls=>(if q l then .t .top else l)::Dx q ls
def LA(q:AS->Bool):List (Nat×Ent)->List (Nat×Ent)| []=>[]|(k,e)::r=>(k,⟨e.sh,Dx q e.cs⟩)::LA q r
def K9(q:AS->Bool):List (Nat×List AS)->List (Nat×List AS)| []=>[]|(k,e)::r=>(k,Dx q e)::K9 q r
def St.kill(S:St)(q:AS->Bool):St:={ S with tm:=LA q S.tm,bx:=K9 q S.bx}
def Me(r:B0)(l:AS):Bool:=l.Bm=some r
def Eo(r:B0):AS->Bool|.vw (.own r' _) _ _|.vp (.own r' _) _=>r'=r|_=>false
def EO(d:Nat)(l:AS):Bool:=match l.Bm with|some (.tmp s _)=>s=d|_=>false
def E5(d:Nat):AS->Bool|.fn _ caps=>caps.any fun l=>decide (l.Ll=some d)|l=>decide (l.Ll=some d)
def LR(ks:List Nat):AS->Bool
 |.fn _ caps=>caps.any fun l=>match l.Ll with|some d=>decide (d∉ks)|none=>false
 |l=>match l.Ll with|some d=>decide (d∉ks)|none=>false
def II(ks:List Nat)(l:AS):Bool:=
 (match l.Bm with|some (.tmp s _)=>decide (s∉ks)|_=>false)||LR ks l
def JR{α:Type}(ks:List Nat):List (Nat×α)->List (Nat×α)| []=>[]|(k,b)::r=>if k∈ks then JR ks r else (k,b)::JR ks r
def YU(ks:List Nat)(l:AS):Bool:=match l.Bm with|some (.tmp s _)=>decide (s∈ks)|_=>false
def St.Hs(S:St)(ks:List Nat):St:={ S with tm:=LA (YU ks) (JR ks S.tm),bx:=K9 (YU ks) S.bx}
def St.clean(S:St)(ks:List Nat):St:={ S with tm:=LA (II ks) (Fx ks S.tm),bx:=K9 (II ks) (Fx ks S.bx)}
def St.at(S:St):B0->Option AS
 |.tmp s c=>match get S.tm s with|some e=>e.cs[c]?|none=>none
 |.cell b c=>match get S.bx b with|some ls=>ls[c]?|none=>none
def St.Be(S:St)(r:B0)(l:AS):St:=
 match r with
 |.tmp s c=>match get S.tm s with|some e=>{ S with tm:=put S.tm s ⟨e.sh,e.cs.set c l⟩}|none=>S
 |.cell b c=>match get S.bx b with|some ls=>{ S with bx:=put S.bx b (ls.set c l)}|none=>S
def St.nl0(S:St)(r:B0)(e:Nat):AS:=match r with|.cell id _=>(if id∈S.pin then .vw (.old id) e [] else .ow (.sl e []))|.tmp _ _=>.ow (.sl e [])
def St.kC(S:St)(r:B0)(e:Nat):St:=match S.at r with|some (.t .nil)=>S.Be r (S.nl0 r e)|_=>S
def St.Q1(S:St):List (B0×Nat)->St| []=>S|(r,e)::ns=>St.Q1 (S.kC r e) ns
def content:T->Option (List (List T))|.nil=>some []|.sl _ xs=>some xs|_=>none
def JM(sub:Option (Nat×Nat))(xs:List (List T)):List (List T):=
 match sub with
 |none=>xs|some (lo,n)=>(xs.drop lo).take n
def kL(sub:Option (Nat×Nat)):T->T|.sl e xs=>.sl e (JM sub xs)|x=>x
def St.elems(S:St):AS->Option (List (List T))
 |.al r sub=>match S.at r with|some (.ow x)=>(content x).map (JM sub)|_=>none
 |.vw _ _ xs=>some xs|.t .nil=>some []|_=>none
def AS.ali(s c:Nat):AS->AS|.ow _=>.al (.tmp s c) none|l=>l
def Rl(s:Nat):Nat->List AS->List AS|_,[]=>[]|c,l::ls=>l.ali s c::Rl s (c+1) ls
def mW:T->AS|.sl e xs=>.vw (.old 0) e xs|x=>.t x
def St.rd(S:St):Opd->Option Ent
 |.tmp s=>match get S.tm s with|some e=>some ⟨e.sh,Rl s 0 e.cs⟩|none=>none
 |.k x=>some ⟨.one,[mW x]⟩|.fn f=>some ⟨.one,[.fn f []]⟩
def St.rds(S:St):List Opd->Option (List Ent)
 | []=>some []|x::xs=>match S.rd x,S.rds xs with|some e,some es=>some (e::es)|_,_=>none
def St.Dg(S:St)(d:Nat)(e:Ent):Option St:=
 if d∈S.pin then none else match get S.tm d with
  |none=>some { S with tm:=put S.tm d e}
  |some _=>some { S with tm:=put (LA (EO d) S.tm) d ⟨e.sh,Dx (EO d) e.cs⟩,bx:=K9 (EO d) S.bx}
def names:AS->List Nat
 |.bp id _=>[id]|.fn _ caps=>caps.filterMap fun l=>match l with|.bp id _=>some id|_=>none
 |_=>[]
def Ss(l l':AS):Bool:=
 (match l.Bm with|some r=>decide (l'.Bm=some r)|none=>false)||(names l).any (fun id=>E5 id l')||(names l').any (fun id=>E5 id l)
def RC(l l':AS):Bool:=
 (match l.Bm with|some r=>decide (l'.Bm=some r)|none=>false)||(names l).any (fun id=>E5 id l')
def rV:AS->Bool|.al _ _=>true|_=>false
def OF:List AS->Bool| []=>true|l::ls=>(ls.all fun l'=>!((rV l||rV l')&&decide (l.Bm=l'.Bm)))&&OF ls
def St.out(S:St)(r:B0):St:=(S.Be r (.t .top)).kill (Me r)
def Ja:St->List AS->Option (St×List AS)
 |S,[]=>some (S,[])|S,l::ls=>match l with
  |.al r sub=>match S.at r with
   |some (.ow x)=>match Ja (S.out r) ls with|some (S',ls')=>some (S',.ow (kL sub x)::ls')|none=>none
   |_=>none
  |l=>match Ja S ls with|some (S',ls')=>some (S',l::ls')|none=>none
def LC(S:St)(ls:List AS):Option (St×List AS):=if OF ls=true then Ja S ls else none
def nx(S:St)(x:Opd)(ls:List AS):Option (St×List AS):=match x with|.tmp s=>if s∈S.pin then some (S,ls) else LC S ls|_=>LC S ls
def Ra:T->Bool|.top=>true|_=>false
def YY:T->Bool|.top=>true|.un=>true|_=>false
def at2(xs:List (List T))(i j:Nat):Option T:=match xs[i]? with|some row=>row[j]?|none=>none
def Src.up:Src->Src|.own r _=>.own r none|s=>s
def Ir(rows:List (List T))(i j:Nat)(x:T):List (List T):=rows.set i ((rows.getD i []).set j x)
def St.pull(S:St)(r:B0)(i j:Nat):Option St:=
 match S.at r with
 |some (.ow (.sl e rows))=>some ((S.Be r (.ow (.sl e (Ir rows i j .top)))).kill (Eo r))|_=>none
def onR(r:B0):List AS->Bool| []=>false|l::ls=>decide (l.Bm=some r)||onR r ls
def DI:St->List AS->Option (St×List T)
 |S,[]=>some (S,[])|S,l::ls=>match l with
  |.t x=>if Ra x=true then none else match DI S ls with|some (S',cs)=>some (S',x::cs)|none=>none
  |.al r sub=>match S.at r with
   |some (.ow x)=>match DI (S.out r) ls with|some (S',cs)=>some (S',kL sub x::cs)|none=>none
   |_=>none
  |.vw (.own r p) e xs=>match p with
   |none=>match S.at r with
    |some (.ow _)=>match DI (S.out r) ls with|some (S',cs)=>some (S',.sl e xs::cs)|none=>none
    |_=>none
   |some (i,j)=>if onR r ls=true then none else match S.pull r i j with
    |some S1=>match DI S1 ls with|some (S',cs)=>some (S',.sl e xs::cs)|none=>none
    |none=>none
  |_=>none
def St.Gs(S:St):AS->Option T
 |.t x=>some x|.al r sub=>match S.at r with|some (.ow x)=>some (kL sub x)|_=>none
 |.vw _ e xs=>some (.sl e xs)|.ow x=>some x|_=>none
def St.Gm(S:St):List AS->Option (List T)
 | []=>some []|l::ls=>match S.Gs l,S.Gm ls with|some x,some xs=>some (x::xs)|_,_=>none
def PN(k:Nat):AS->Option T|.t x=>some x|.vw (.old k') e xs=>if k'=k then some (.sl e xs) else none|_=>none
def E1(k:Nat):List AS->Option (List T)
 | []=>some []|l::ls=>match PN k l,E1 k ls with|some x,some xs=>some (x::xs)|_,_=>none
def C8:List AS->Nat| []=>0|.vw (.old k) _ _::_=>k|_::ls=>C8 ls
def Dt(k:Nat):T->AS|.sl e xs=>.vw (.old k) e xs|.mp _=>.t .top|x=>.t x
def JX:T->AS|.sl e xs=>.ow (.sl e xs)|.mp ks=>.ow (.mp ks)|.nil=>.ow .nil|x=>.t x
def Ki(s:Src):T->AS|.sl e xs=>.vw s e xs|.mp _=>.t .top|x=>.t x
def Om:List AS->Bool| []=>true|l::ls=>l.Bm.isNone&&Om ls
def AGv(S:St):AS->Option V
 |.t x=>some (.v .one [x])|.vw (.old _) e xs=>some (.v .one [.sl e xs])|.bp id off=>match get S.bx id with|some ls=>if Om ls=true then (S.Gm (ls.drop off)).map .p else none|none=>none
 |.vp (.old _) cs=>some (.p cs)|_=>none
def bL(S:St):List AS->Option (List V)
 | []=>some []|l::ls=>match AGv S l,bL S ls with|some x,some xs=>some (x::xs)|_,_=>none
def Fb:Sh->Nat->Bool|.one,n=>n==1|.agg,_=>true|_,_=>false
def Q8:AS->Bool|.t _|.al _ none|.vw (.own _ (some _)) _ _=>true|_=>false
def Gp:St->List AS->List T->Option St
 |S,[],[]=>some S|S,l::ls,o::os=>match l with
  |.al r none=>Gp (S.Be r (.ow o)) ls os|.vw (.own r (some (i,j))) _ _=>match S.at r with|some (.ow (.sl e rows))=>Gp ((S.Be r (.ow (.sl e (Ir rows i j o)))).kill (Eo r)) ls os|_=>none
  |.t _=>Gp S ls os|_=>none
 |_,_,_=>none
def Rm(S:St)(md:Md)(e:Ent):Option V:=
 match md with
 |.v=>match e with
  |⟨.one,[.fn f caps]⟩=>match bL S caps with|some cs=>some (.f f cs)|none=>none
  |e=>match S.Gm e.cs with|some cs=>some (.v e.sh cs)|none=>none
 |.p=>match e with
  |⟨.one,[.bp id off]⟩=>match get S.bx id with
   |some ls=>if Om ls=true then match S.Gm (ls.drop off) with|some cs=>some (.p cs)|none=>none else none
   |none=>none
  |⟨.one,[.vp _ cs]⟩=>some (.p cs)|_=>none
 |.b=>match e with
  |⟨.one,[.bp id 0]⟩=>match get S.bx id with
   |some ls=>match E1 (C8 ls) ls with|some cs=>some (.b cs)|none=>none
   |none=>none
  |_=>none
 |_=>none
def Md.EP:Md->Bool|.o|.m=>true|_=>false
def Gq:List Md->List Ent->List AS|md::ms,e::es=>(if md.EP=true then e.cs else [])++Gq ms es|_,_=>[]
def Iq(S:St):List Md->List Ent->List T->Option (List V)
 | [],[],_=>some []|md::ms,e::es,cs=>match md with
  |.o=>match Iq S ms es (cs.drop e.cs.length) with|some vs=>some (.o e.sh (cs.take e.cs.length)::vs)|none=>none
  |.m=>if e.cs.all Q8=true/\Fb e.sh e.cs.length=true then match Iq S ms es (cs.drop e.cs.length) with|some vs=>some (.m e.sh (cs.take e.cs.length)::vs)|none=>none else none
  |md=>match Rm S md e,Iq S ms es cs with|some v,some vs=>some (v::vs)|_,_=>none
 |_,_,_=>none
def EB:St->List Md->List Ent->St
 |S,md::ms,e::es=>match md with
  |.b=>match e with
   |⟨.one,[.bp id 0]⟩=>match get S.bx id with
    |some ls=>EB { S with bx:=put S.bx id (ls.map fun _=>.t .top)} ms es
    |none=>EB S ms es
   |_=>EB S ms es
  |_=>EB S ms es
 |S,_,_=>S
def VO(S:St)(ms:List Md)(es:List Ent):Option (St×List V):=
 match DI S (Gq ms es) with
 |some (S1,cs)=>match Iq S ms es cs with|some vs=>some (EB S1 ms es,vs)|none=>none
 |none=>none
def E0(S0:St):St->List Md->List Ent->List (List T)->Option St
 |S,[],_,[]=>some S|S,md::ms,e::es,outs=>match md with
  |.b=>match e,outs with
   |⟨.one,[.bp id 0]⟩,o::outs=>match get S0.bx id,get S.bx id with
    |some ls,some ls1=>if o.length=ls1.length then E0 S0 { S with bx:=put S.bx id (o.map (Dt (C8 ls)))} ms es outs else none
    |_,_=>none
   |_,_=>none
  |.m=>match outs with
   |o::outs=>match Gp S e.cs o with|some S'=>E0 S0 S' ms es outs|none=>none
   |_=>none
  |_=>E0 S0 S ms es outs
 |_,_,_,_=>none
def Md.writes:Md->Bool|.v|.p=>false|_=>true
def shares(e e':Ent):Bool:=e.cs.any fun l=>e'.cs.any fun l'=>Ss l l'
def PR:List Ent->List Md->List Ent->Bool|prev,md::ms,e::es=>(md.writes&&(prev.any (shares e)||es.any (shares e)))||PR (e::prev) ms es|_,_,_=>false
def D9:B3->List Md|.mk ms _ _=>ms|.Mf _ ms=>ms
def AUQ(sh:Sh)(cs:List T):Ent:=⟨sh,cs.map JX⟩
def lim:Nat:=268435456
def AC2:Option Ent->Option T|some ⟨.one,[.t x]⟩=>some x|_=>none
def St.sc(S:St)(x:Opd):Option T:=AC2 (S.rd x)
def St.nat(S:St)(x:Opd):Option Int:=match S.sc x with|some (.int _ n)=>some n|_=>none
def St.AN3(S:St)(d:Int):Option Opd->Option Int|none=>some d|some o=>S.nat o
def St.one(S:St)(x:Opd):Option AS:=match S.rd x with|some ⟨.one,[l]⟩=>some l|_=>none
def OE:Nat:=4611686018427387904
def eqT:Kd->T->T->Option Bool|.i,.int k a,.int k' b=>if k=k' then some (a==b) else none|.b,.bool a,.bool b=>some (a==b)|.s,.str a,.str b=>some (a==b)|_,_,_=>none
def Rg:List Kd->List T->List T->Option Bool
 | [],[],[]=>some true|k::ks,a::as,b::bs=>match eqT k a b,Rg ks as bs with|some x,some y=>some (x&&y)|_,_=>none
 |_,_,_=>none
def VH:List AS->Option (List T)| []=>some []|.t x::ls=>(VH ls).map (x::·)|_=>none
def Zd(op:BinOp)(k:IntKind)(a b:Int):Option T:=
 match op with
 |.add=>some (.int k (k.wrap (a+b)))|.sub=>some (.int k (k.wrap (a-b)))|.mul=>some (.int k (k.wrap (a*b)))|.quo=>if b=0 then none else some (.int k (k.wrap (a.tdiv b)))|.rem=>if b=0 then none else some (.int k (a.tmod b))|.and=>some (.int k (k.wrap (BitVec.ofInt k.bits a &&& BitVec.ofInt k.bits b).toNat))|.or=>some (.int k (k.wrap (BitVec.ofInt k.bits a |||BitVec.ofInt k.bits b).toNat))|.xor=>some (.int k (k.wrap (BitVec.ofInt k.bits a ^^^ BitVec.ofInt k.bits b).toNat))|.eql=>some (.bool (a==b))|.neq=>some (.bool (a != b))|.lss=>some (.bool (decide (a<b)))|.leq=>some (.bool (decide (a<=b)))|.gtr=>some (.bool (decide (a>b)))|.geq=>some (.bool (decide (a>=b)))|_=>none
def AC3(op:BinOp)(k:IntKind)(a b:Int):Option T:=
 if b<0 then none else
 match op with
 |.shl=>some (.int k (k.wrap (a*2 ^ (min b.toNat k.bits))))|.shr=>some (.int k (a.fdiv (2 ^ (min b.toNat k.bits))))|_=>none
def AGr(op:BinOp):T->T->Option T
 |.int k a,.int k' b=>match op with|.shl|.shr=>AC3 op k a b|_=>if k=k' then Zd op k a b else none
 |.str a,.str b=>match op with|.add=>if a.length+b.length<=OE then some (.str (a++b)) else none|.eql=>some (.bool (a==b))|.neq=>some (.bool (a != b))|_=>none
 |.bool a,.bool b=>match op with|.eql=>some (.bool (a==b))|.neq=>some (.bool (a != b))|_=>none
 |_,_=>none
def St.Uy(S:St):AS->Option Bool
 |.t .nil=>some true|.vw _ _ (_::_)=>some false|.al r none=>match S.at r with|some (.ow .nil)=>some true|some (.ow (.sl _ (_::_)))=>some false|_=>none
 |_=>none
def jw(op:BinOp)(b:Bool):Option T:=match op with|.eql=>some (.bool b)|.neq=>some (.bool !b)|_=>none
def bI(op:BinOp):T->T->Option T|.int k a,.int k' b=>AGr op (.int k a) (.int k' b)|.str a,.str b=>AGr op (.str a) (.str b)|_,_=>none
def St.bin(S:St)(c:Cls)(op:BinOp)(x y:Ent):Option T:=
 match c with
 |.num=>match x,y with|⟨.one,[.t a]⟩,⟨.one,[.t b]⟩=>bI op a b|_,_=>none
 |.bool=>match x,y with|⟨.one,[.t (.bool a)]⟩,⟨.one,[.t (.bool b)]⟩=>jw op (a==b)|_,_=>none
 |.sl=>match x,y with
  |⟨.one,[l]⟩,⟨.one,[.t .nil]⟩=>match S.Uy l with|some b=>jw op b|none=>none
  |_,_=>none
 |.agg ks=>match x,y with
  |⟨.agg,as⟩,⟨.agg,bs⟩=>match VH as,VH bs with
   |some as,some bs=>match Rg ks as bs with|some b=>jw op b|none=>none
   |_,_=>none
  |_,_=>none
def unT(op:UnOp):T->Option T
 |.bool b=>match op with|.not=>some (.bool !b)|_=>none
 |.int k n=>match op with|.neg=>some (.int k (k.wrap (0-n)))|_=>none
 |_=>none
def Jn(s:List UInt8):List (List T):=s.map fun b=>[.int .u8 b.toNat]
def byteOf:List T->Option UInt8| [.int .u8 n]=>some (UInt8.ofNat n.toNat)|_=>none
def bytesOf:List (List T)->Option (List UInt8)
 | []=>some []|x::xs=>match byteOf x,bytesOf xs with|some b,some bs=>some (b::bs)|_,_=>none
def flat:T->Bool|.sl _ _=>false|.top=>false|.mp _=>false|_=>true
def F6(xs:List (List T)):Bool:=xs.all (·.all flat)
def AGq(e:Nat)(x:T)(ys:List (List T)):T:=match x with|.sl e xs=>.sl e (xs++ys)|_=>.sl e ys
def eOf(e:Nat):T->Bool|.sl e' _=>e'==e|_=>true
def PG(e:Nat)(fl:Bool)(S:St)(l:AS):Option (St×List (List T)):=
 match l with
 |.t (.str s)=>if e=1 then some (S,Jn s) else none|.t .nil=>some (S,[])|.vw _ e' xs=>if e'=e/\F6 xs=true then some (S,xs) else none|.al r sub=>match S.at r with
  |some (.ow x)=>match content x with|some xs=>if eOf e x=true then (if fl=true then (if F6 (JM sub xs)=true then some (S,JM sub xs) else none) else some (S.out r,JM sub xs)) else none|none=>none
  |_=>none
 |_=>none
def toEnd(sub:Option (Nat×Nat))(len:Nat):Bool:=match sub with|none=>true|some (lo,n)=>lo+n==len
def RU(e:Nat)(S:St)(l:AS):Option (St×T×Nat):=
 match l with
 |.t .nil=>some (S,.nil,0)|.al r sub=>match S.at r with
  |some (.ow x)=>match content x with|some xs=>if eOf e x=true/\toEnd sub xs.length=true then some (S.out r,kL sub x,(JM sub xs).length) else none|none=>none
  |_=>none
 |.vw (.own r (some (i,j))) e' xs=>if e'=e then match S.pull r i j with|some S'=>some (S',.sl e xs,xs.length)|none=>none else none
 |_=>none
def Mg(off:Nat):AS->Option AS|.bp id o=>some (.bp id (o+off))|.ep r i j=>some (.ep r i (j+off))|.vp s cs=>some (.vp s (cs.drop off))|_=>none
def JK(r:B0)(i:Nat):Nat->List T->List AS|_,[]=>[]|j,x::xs=>Ki (.own r (some (i,j))) x::JK r i (j+1) xs
def QQ(b:Nat):Nat->List AS->List AS|_,[]=>[]|c,.ow _::ls=>.al (.cell b c) none::QQ b (c+1) ls|c,l::ls=>l::QQ b (c+1) ls
def St.load(S:St)(n:Nat):AS->Option (List AS)
 |.bp id o=>match get S.bx id with|some ls=>if o+n<=ls.length then some (QQ id o ((ls.drop o).take n)) else none|none=>none
 |.ep r i j=>match S.at r with
  |some (.ow (.sl _ xs))=>match xs[i]? with|some cs=>if j+n<=cs.length then some (JK r i j ((cs.drop j).take n)) else none|none=>none
  |_=>none
 |.vp s cs=>if n<=cs.length then some ((cs.take n).map (Ki s.up)) else none|_=>none
def DS{α:Type}:List α->Nat->List α->List α|ls,_,[]=>ls|ls,o,c::cs=>DS (ls.set o c) (o+1) cs
def Hj(b o n:Nat)(l:AS):Bool:=match l.Bm with|some (.cell b' c)=>b'=b&&decide (o<=c)&&decide (c<o+n)|_=>false
def HU:List AS->Bool| []=>false|.t .top::_=>true|.und::_=>true|_::ls=>HU ls
def XU(n:Nat)(S:St)(ls:List AS):Option (St×List AS):=if n<1048576 then LC S ls else some (S,ls)
def St.RI(S:St)(n:Nat)(p:AS)(cs:List AS):Option St:=
 match p with
 |.bp id o=>match XU n S cs with
  |some (S',cs')=>if HU cs'=true then none else
   let S2:=S'.kill (Hj id o cs'.length)
   match get S2.bx id with
   |some ls=>if o+cs'.length<=ls.length then some { S2 with bx:=put S2.bx id (DS ls o (Dx (Hj id o cs'.length) cs'))} else none
   |none=>none
  |none=>none
 |.ep r i j=>match DI S cs with
  |some (S',ts)=>match S'.at r with
   |some (.ow (.sl e xs))=>match xs[i]? with|some row=>if j+ts.length<=row.length then some ((S'.Be r (.ow (.sl e (xs.set i (DS row j ts))))).kill (Eo r)) else none|none=>none
   |_=>none
  |none=>none
 |_=>none
def MQ(S:St):List AS->List (Nat×Nat×Opd)->Option (List AS)
 |ls,[]=>some ls|ls,(o,n,x)::ps=>match S.rd x with|some e=>if e.cs.length=n/\Fb e.sh n=true/\HU e.cs=false/\o+n<=ls.length then MQ S (DS ls o e.cs) ps else none|none=>none
def rowsOf(n:Nat)(zs:List T):List (List T):=List.replicate n zs
def bsK(m n:Nat):St->List (List T)->List (Nat×Opd)->Option (St×List (List T))
 |S,xs,[]=>some (S,xs)|S,xs,(i,x)::ps=>match S.rd x with
  |some e=>if e.cs.length=m/\Fb e.sh e.cs.length=true/\i<n then match DI S e.cs with
   |some (S',cs)=>bsK m n S' (xs.set i cs) ps|none=>none
   else none
  |none=>none
def yx:Sh->Bool|.one=>true|_=>false
def St.RZ:AS->Bool|.bp _ _|.ep _ _ _|.vp _ _=>true|_=>false
def DK(n:Option Nat):Nat:=match n with|some k=>k|none=>1
def shN(n:Option Nat):Sh:=match n with|some _=>.agg|none=>.one
def Ty:List (Option Nat)->Nat| []=>0|n::ns=>DK n+Ty ns
def St.range(S:St)(len:Nat)(lo hi:Option Opd):Option (Nat×Nat):=
 match S.AN3 0 lo,S.AN3 len hi with
 |some a,some b=>if 0<=a/\a<=b/\b<=len then some (a.toNat,b.toNat) else none|_,_=>none
def St.wide(S:St)(e:Nat):AS->Bool
 |.vw _ e' _=>e'==e|.al r _=>match S.at r with|some (.ow x)=>eOf e x|_=>false
 |_=>true
def Mb:List (Int×Int)->Int->Int| [],_=>0|(k,v)::r,n=>if n=k then v else Mb r n
def JL:List (Int×Int)->Int->Int->List (Int×Int)| [],n,m=>[(n,m)]|(k,v)::r,n,m=>if n=k then (k,m)::r else (k,v)::JL r n m
def St.Px(S:St)(x:Opd):Option (B0×List (Int×Int)):=
 match S.one x with
 |some (.al r none)=>match S.at r with|some (.ow (.mp ks))=>some (r,ks)|_=>none
 |_=>none
def ev(o:XOp)(S:St):Option St:=
 match o with
 |.mv d x=>match S.rd x with|some e=>S.Dg d e|none=>none
 |.as d x=>match S.rd x with
  |some e=>match LC S e.cs with|some (S',cs)=>S'.Dg d ⟨e.sh,cs⟩|none=>none
  |none=>none
 |.pick d c a b=>match S.sc c,S.rd a,S.rd b with|some (.bool t),some ea,some eb=>S.Dg d (if t=true then ea else eb)|_,_,_=>none
 |.alloc d zs=>if d∈S.pin then none else
  let S':=S.kill (fun l=>EO d l||E5 d l)
  some { S' with tm:=put S'.tm d ⟨.one,[.bp d 0]⟩,bx:=put S'.bx d (zs.map .t)}
 |.box d x=>match S.rd x with
  |some e=>match nx S x e.cs with
   |some (S1,cs)=>if d∈S1.pin\/HU cs=true\/Fb e.sh e.cs.length=false then none else
    let q:=fun l=>EO d l||E5 d l
    let S':=S1.kill q
    some { S' with tm:=put S'.tm d ⟨.one,[.bp d 0]⟩,bx:=put S'.bx d (Dx q cs)}
   |none=>none
  |none=>none
 |.build d zs parts=>match MQ S (zs.map .t) parts with|some ls=>S.Dg d ⟨.agg,ls⟩|none=>none
 |.Br d n zs parts=>if n*zs.length<=16777216 then match bsK zs.length n S (rowsOf n zs) parts with
  |some (S',xs)=>S'.Dg d ⟨.one,[.ow (.sl zs.length xs)]⟩|none=>none
  else none
 |.ld d n x=>match S.one x with
  |some p=>match S.load (DK n) p with|some ls=>S.Dg d ⟨shN n,ls⟩|none=>none
  |none=>none
 |.st n x v=>match S.one x,S.rd v with|some p,some e=>if e.cs.length=n % 1048576/\Fb e.sh (n % 1048576)=true then S.RI n p e.cs else none|_,_=>none
 |.chk d x=>match S.one x with|some p=>if St.RZ p=true then S.Dg d ⟨.one,[p]⟩ else none|none=>none
 |.bin d c op x y=>match S.rd x,S.rd y with
  |some ex,some ey=>match S.bin c op ex ey with|some t=>S.Dg d ⟨.one,[.t t]⟩|none=>none
  |_,_=>none
 |.un d op x=>match S.sc x with
  |some a=>match unT op a with|some t=>S.Dg d ⟨.one,[.t t]⟩|none=>none
  |none=>none
 |.cvI d k x=>match S.nat x with|some n=>S.Dg d ⟨.one,[.t (.int k (k.wrap n))]⟩|none=>none
 |.QW d x=>match S.sc x with|some (.str s)=>S.Dg d ⟨.one,[.ow (.sl 1 (Jn s))]⟩|_=>none
 |.Rt d x=>match S.one x with
  |some l=>match S.elems l with
   |some xs=>match bytesOf xs with|some bs=>S.Dg d ⟨.one,[.t (.str bs)]⟩|none=>none
   |none=>none
  |none=>none
 |.N2 d f caps=>match S.rds caps with|some es=>if (es.all fun e=>yx e.sh&&e.cs.length==1&&e.cs.all AS.plain)=true then S.Dg d ⟨.one,[.fn f (es.flatMap Ent.cs)]⟩ else none|none=>none
 |.Ux d zs n c=>match S.nat n,S.nat c with|some k,some k'=>if k'=k/\0<=k/\k<=lim then S.Dg d ⟨.one,[.ow (.sl zs.length (rowsOf k.toNat zs))]⟩ else none|_,_=>none
 |.VF d x lo hi=>match S.sc x with
  |some (.str s)=>match S.range s.length lo hi with|some (a,b)=>S.Dg d ⟨.one,[.t (.str ((s.drop a).take (b-a)))]⟩|none=>none
  |_=>none
 |.sub d e x lo hi=>match S.one x with
  |some l=>match if S.wide e l=true then S.elems l else none with
   |some xs=>match S.range xs.length lo hi with
    |some (a,b)=>match l with|.al r none=>S.Dg d ⟨.one,[.al r (some (a,b-a))]⟩|.al r (some (lo0,_))=>S.Dg d ⟨.one,[.al r (some (lo0+a,b-a))]⟩|.vw s e' _=>S.Dg d ⟨.one,[.vw s.up e' ((xs.drop a).take (b-a))]⟩|l=>S.Dg d ⟨.one,[l]⟩
    |none=>none
   |none=>none
  |none=>none
 |.fa d off x=>match S.one x with
  |some p=>match Mg off p with|some q=>S.Dg d ⟨.one,[q]⟩|none=>none
  |none=>none
 |.fld d off n x=>match S.rd x with|some ⟨.agg,cs⟩=>if off+DK n<=cs.length then S.Dg d ⟨shN n,(cs.drop off).take (DK n)⟩ else none|_=>none
 |.ia d e x i=>match S.one x,S.nat i with
  |some l,some n=>match S.elems l with
   |some xs=>if S.wide e l=true/\0<=n/\n<xs.length then match l with
    |.al r none=>S.Dg d ⟨.one,[.ep r n.toNat 0]⟩|.al r (some (lo,_))=>S.Dg d ⟨.one,[.ep r (lo+n.toNat) 0]⟩|.vw s _ _=>S.Dg d ⟨.one,[.vp s.up (xs.getD n.toNat [])]⟩|_=>none
    else none
   |none=>none
  |_,_=>none
 |.ix d x i=>match S.sc x,S.nat i with|some (.str s),some n=>if 0<=n/\n<s.length then S.Dg d ⟨.one,[.t (.int .u8 (s.getD n.toNat 0).toNat)]⟩ else none|_,_=>none
 |.ext d x i=>match x with
  |.tmp s=>match get S.tm s with
   |some ⟨.tup ns,cs⟩=>match ns[i]? with
    |some n=>
     let o:=Ty (ns.take i)
     if o+DK n<=cs.length then match LC S (((Rl s 0 cs).drop o).take (DK n)) with|some (S',ls)=>S'.Dg d ⟨shN n,ls⟩|none=>none
     else none
    |none=>none
   |_=>none
  |_=>none
 |.lens d x=>match S.sc x with|some (.str s)=>S.Dg d ⟨.one,[.t (.int .i64 s.length)]⟩|_=>none
 |.len d x=>match S.one x with
  |some l=>match S.elems l with|some xs=>S.Dg d ⟨.one,[.t (.int .i64 xs.length)]⟩|none=>none
  |none=>none
 |.app d e fl x y=>match S.one x,S.one y with
  |some lx,some ly=>match PG e fl S ly with
   |some (S1,ys)=>match RU e S1 lx with|some (S2,b,n)=>if n+ys.length<=lim then S2.Dg d ⟨.one,[.ow (AGq e b ys)]⟩ else none|none=>none
   |none=>none
  |_,_=>none
 |.Tv d zs x n=>match S.one x,S.nat n with
  |some lx,some k=>if 0<=k/\k<=lim then match RU zs.length S lx with
   |some (S2,b,n)=>if n+k.toNat<=lim then S2.Dg d ⟨.one,[.ow (AGq zs.length b (rowsOf k.toNat zs))]⟩ else none|none=>none
   else none
  |_,_=>none
 |.cpy d e x y=>match S.one x,S.one y with
  |some (.al r none),some ly=>match S.at r,S.elems ly with
   |some (.ow (.sl e' xs)),some ys=>
    if e'=e/\S.wide e ly=true/\F6 ys=true/\F6 xs=true/\xs.isEmpty=false
    then ((S.Be r (.ow (.sl e (ys.take xs.length++xs.drop ys.length)))).kill (Eo r)).Dg d ⟨.one,[.t (.int .i64 (min ys.length xs.length:Nat))]⟩ else none
   |_,_=>none
  |_,_=>none
 |.mm d isMax x y=>match S.sc x,S.sc y with|some (.int k a),some (.int k' b)=>if k'=k then S.Dg d ⟨.one,[.t (.int k (if isMax=true then (if b>a then b else a) else (if b<a then b else a)))]⟩ else none|_,_=>none
 |.mmk d=>S.Dg d ⟨.one,[.ow (.mp [])]⟩|.Tw d x k=>match S.Px x,S.sc k with|some (_,ks),some (.int .i64 n)=>S.Dg d ⟨.one,[.t (.int .i64 (Mb ks n))]⟩|_,_=>none
 |.Sg x k v=>match S.Px x,S.sc k,S.sc v with|some (r,ks),some (.int .i64 n),some (.int .i64 m)=>some ((S.Be r (.ow (.mp (JL ks n m)))).kill (Eo r))|_,_,_=>none
 |.Tx d x=>match S.Px x with|some (_,ks)=>S.Dg d ⟨.one,[.t (.int .i64 ks.length)]⟩|none=>none
 |.bad _=>none|.drop ds=>some (S.Hs ds)|.Uz ns=>some (S.Q1 ns)|.call _ _ _=>none|.D8 _ _ _ _=>none
def E9(o:XOp)(S:St):Option (Nat×B3×List Ent):=
 match o with
 |.call d f args=>match S.rds args with|some es=>some (d,f,es)|none=>none
 |.D8 d x ms args=>match S.one x,S.rds args with|some (.fn f caps),some es=>if D9 f=ms then some (d,f,es++caps.map (fun l=>⟨.one,[l]⟩)) else none|_,_=>none
 |_=>none
def iA(S:St)(e:Ent):Option Nat:=
 match e with
 |⟨.one,[.bp id _]⟩=>match get S.bx id with|some ls=>if (E1 (C8 ls) ls).isSome=true then some (C8 ls) else none|none=>none
 |e=>if (E1 (C8 e.cs) e.cs).isSome=true then some (C8 e.cs) else none
def pre(f:B3)(es:List Ent)(S:St):Option (St×List V):=if PR [] (D9 f) es=true then none else VO S (D9 f) es
def iB(f:B3)(S0:St)(es:List Ent)(k:Nat):Option Nat:=
 match es[k]? with
 |some e=>if (D9 f)[k]?=some .p then none else iA S0 e|none=>none
def P0(S:St)(d:Nat)(ls:List AS):Option St:=
 if d∈S.pin then none else
  let S2:=S.kill (fun l=>EO d l||E5 d l)
  some { S2 with tm:=put S2.tm d ⟨.one,[.bp d 0]⟩,bx:=put S2.bx d ls}
def post(d:Nat)(f:B3)(es:List Ent)(S0 S:St)(sh:Sh)(cs:List T)(outs:List (List T)):Option St:=
 match E0 S0 S (D9 f) es outs with
 |some S'=>match sh with
  |.ptr k=>match iB f S0 es k with|some lab=>P0 S' d (cs.map (Dt lab))|none=>none
  |.vw k=>match iB f S0 es k with|some lab=>S'.Dg d ⟨.one,cs.map (Dt lab)⟩|none=>none
  |sh=>S'.Dg d (AUQ sh cs)
 |none=>none
def XOp.gA:XOp->Option Nat|.mv d _|.as d _|.pick d _ _ _|.alloc d _|.box d _|.build d _ _|.Br d _ _ _|.ld d _ _|.chk d _|.bin d _ _ _ _|.un d _ _|.cvI d _ _|.QW d _|.Rt d _|.N2 d _ _|.Ux d _ _ _|.sub d _ _ _ _|.VF d _ _ _|.fa d _ _|.fld d _ _ _|.ia d _ _ _|.ix d _ _|.ext d _ _|.call d _ _|.D8 d _ _ _|.len d _|.lens d _|.app d _ _ _ _|.Tv d _ _ _|.cpy d _ _ _|.mm d _ _ _|.mmk d|.Tw d _ _|.Tx d _=>some d|.st _ _ _=>none|.Sg _ _ _=>none|.bad d=>d|.drop _=>none|.Uz _=>none
def MK(o:XOp)(S:St):Option St:=match o.gA with|some d=>S.Dg d ⟨.one,[.und]⟩|none=>some S
def wanted(S:St):Option (Nat×Bool)->Option Bool
 |none=>some true|some (s,want)=>match get S.tm s with|some ⟨.one,[.t (.bool b)]⟩=>some (b==want)|some ⟨.one,[.und]⟩=>some false|_=>none
def opK(Rn:Rel)(o:XOp)(S:St)(K:St->Prop):Prop:=
 (∃S',ev o S=some S'/\K S') \/
 (∃d f es S1 vs sh cs outs S2,E9 o S=some (d,f,es)/\pre f es S=some (S1,vs)/\Rn f vs sh cs outs/\post d f es S S1 sh cs outs=some S2/\K S2)
def ACl(Rn:Rel):List (Option (Nat×Bool)×XOp)->St->(St->Prop)->Prop
 | [],S,K=>K S|(g,o)::r,S,K=>∃b,wanted S g=some b /\
  ((b=true/\opK Rn o S (fun S'=>ACl Rn r S' K))\/(b=false/\∃S',MK o S=some S'/\ACl Rn r S' K))
def XOp.wr:XOp->Option Opd|.app _ _ _ x _|.Tv _ _ x _|.cpy _ _ x _|.Sg x _ _=>some x|_=>none
def Jl(l:AS):List Md->List Ent->Bool|md::ms,e::es=>(!md.writes||e.cs.all fun l'=>!RC l' l)&&Jl l ms es|_,_=>true
def St.Nv(S:St):AS->Bool
 |.bp id _=>(get S.bx id).isSome|.ep _ _ _=>true|.vp _ cs=>!cs.isEmpty|.al r _=>match S.at r with|some (.ow x)=>!YY x|_=>false
 |.vw (.own _ _) _ _=>true|.t .nil=>true|_=>false
def UJ(o:XOp)(S:St)(l:AS):Bool:=
 S.Nv l&&match o with
  |.st _ x _=>match S.one x with|some (.bp id _)=>!(names l).contains id|some (.ep r _ _)=>decide (l.Bm≠some r)|_=>false
  |o=>match E9 o S with
   |some (_,f,es)=>Jl l (D9 f) es|none=>match o.wr with
    |some y=>match S.one y with|some lt=>l.Bm.isNone||decide (l.Bm≠lt.Bm)|none=>true
    |none=>true
def JZ(o:XOp)(S:St):List Nat->Bool
 | []=>true|s::ss=>(match S.one (.tmp s) with|some l=>UJ o S l|none=>false)&&JZ o S ss
def runK(Rn:Rel):Rf->St->(St->Prop)->Prop
 |.nil,S,K=>K S|.op _ g sf o rest,S,K=>∃b,wanted S g=some b /\
  ((b=true/\JZ o S sf=true/\opK Rn o S (fun S'=>runK Rn rest S' K))\/(b=false/\∃S',MK o S=some S'/\runK Rn rest S' K))
 |.dr ds rest,S,K=>runK Rn rest (S.Hs ds) K|.nl ns rest,S,K=>runK Rn rest (S.Q1 ns) K|.both a b,S,K=>runK Rn a S K/\runK Rn b S K
inductive Ex where
 |n|x(id:Nat)|r
def AGA(body:St->(Ex->St->Prop)->Prop):Nat->St->(Ex->St->Prop)->Prop
 |0,_,_=>False|n+1,S,Q=>body S (fun e S'=>match e with|.n=>AGA body n S' Q|e=>Q e S')
def wp(Rn:Rel):NZ->St->(Ex->St->Prop)->Prop
 |.skip,S,Q=>Q .n S|.region ops E4,S,Q=>ACl Rn ops S (fun S'=>∃ks,Q .n (S'.clean ks))|.Pj r E4,S,Q=>runK Rn r S (fun S'=>∃ks,Q .n (S'.clean ks))|.seq a b,S,Q=>wp Rn a S (fun e S'=>match e with|.n=>wp Rn b S' Q|e=>Q e S')
 |.cond c kt ke t e,S,Q=>∃b,S.sc (.tmp c)=some (.bool b)/\∃ks,if b=true then wp Rn t (S.clean ks) Q else wp Rn e (S.clean ks) Q|.block id b,S,Q=>wp Rn b S (fun e S'=>match e with|.x i=>if i=id then Q .n S' else Q (.x i) S'|e=>Q e S')
 |.loop b,S,Q=>∃n,AGA (wp Rn b) n S Q|.exit id,S,Q=>Q (.x id) S|.ret,S,Q=>Q .r S|.scope b,S,Q=>wp Rn b S Q|.or a b,S,Q=>wp Rn a S Q\/wp Rn b S Q|.dead,_,_=>False
def Oz(i:Nat):List V->Option (List AS)| []=>some []|.v .one [x]::vs=>(Oz i vs).map (Dt i x::·)|.p cs::vs=>(Oz i vs).map (.vp (.old i) cs::·)|_::_=>none
def initK:Nat->List Md->List V->St->Option St
 |_,[],[],S=>some S|i,.v::ms,.v sh cs::vs,S=>initK (i+1) ms vs { S with tm:=put S.tm i ⟨sh,cs.map (Dt i)⟩}
 |i,.v::ms,.f xf caps::vs,S=>match Oz i caps with
  |some ls=>initK (i+1) ms vs { S with tm:=put S.tm i ⟨.one,[.fn xf ls]⟩}
  |none=>none
 |i,.p::ms,.p cs::vs,S=>initK (i+1) ms vs { S with tm:=put S.tm i ⟨.one,[.vp (.old i) cs]⟩}
 |i,.b::ms,.b cs::vs,S=>initK (i+1) ms vs { S with tm:=put S.tm i ⟨.one,[.bp i 0]⟩,bx:=put S.bx i (cs.map (Dt i)),pin:=i::S.pin}
 |i,.o::ms,.o sh cs::vs,S=>initK (i+1) ms vs { S with tm:=put S.tm i ⟨sh,cs.map JX⟩}
 |i,.m::ms,.m sh cs::vs,S=>if Fb sh cs.length=true then initK (i+1) ms vs { S with tm:=put S.tm i ⟨sh,cs.map JX⟩,pin:=i::S.pin} else none
 |_,_,_,_=>none
def MJ:List G7->St->Option (List (Option Nat)×List AS)
 | [],_=>some ([],[])|.tmp t::rs,S=>match S.rd (.tmp t),MJ rs S with
  |some e,some (ns,ls)=>if Fb e.sh e.cs.length=true then some ((match e.sh with|.one=>none|_=>some e.cs.length)::ns,e.cs++ls) else none
  |_,_=>none
 |.cell t n::rs,S=>match S.one (.tmp t) with
  |some (.bp id o)=>match S.load (DK n) (.bp id o),MJ rs S with|some ls',some (ns,ls)=>some (n::ns,ls'++ls)|_,_=>none
  |_=>none
 |.bx _::_,_=>none|.vw _ _::_,_=>none|.un _ _::_,_=>none
def zt:List (Option Nat)->Sh| [none]=>.one| [some _]=>.agg|ns=>.tup ns
def N3:List AS->Bool
 | []=>true|l::ls=>(match l with|.t x=>!Ra x|.vw (.old _) _ _=>true|_=>false)&&N3 ls
def Z3(rs:List G7)(S:St):Option (St×Sh×List T):=
 match rs with
 | [.bx t]=>match S.one (.tmp t) with
  |some (.bp id 0)=>match get S.bx id with
   |some ls=>if id∈S.pin then none else match E1 (C8 ls) ls with|some cs=>some (S,.ptr (C8 ls),cs)|none=>none
   |none=>none
  |_=>none
 | [.vw t k]=>match S.one (.tmp t) with
  |some (.vw (.old k') e xs)=>if k'=k then some (S,.vw k,[.sl e xs]) else none|some (.t .nil)=>some (S,.vw k,[.nil])|some (.al r sub)=>match S.at r with|some (.ow x)=>some (S.out r,.vw k,[kL sub x])|_=>none
  |_=>none
 |.un t n::r::rs=>match S.one (.tmp t) with
  |some (.bp id o)=>match S.load n (.bp id o) with
   |some ls'=>if N3 ls'=true then match MJ (r::rs) S with
    |some (ns,ls)=>match DI S ls with|some (S',cs)=>some (S',.tup (some n::ns),List.replicate n .un++cs)|none=>none
    |none=>none
    else none
   |none=>none
  |_=>none
 |rs=>match MJ rs S with
  |some (ns,ls)=>match DI S ls with|some (S',cs)=>some (S',zt ns,cs)|none=>none
  |none=>none
def owT:AS->Option T|.ow x=>some x|.t x=>if Ra x=true then none else some x|_=>none
def Zz:List AS->Option (List T)
 | []=>some []|l::ls=>match owT l,Zz ls with|some x,some xs=>some (x::xs)|_,_=>none
def Ee:Nat->List Md->St->Option (List (List T))
 |_,[],_=>some []|i,.b::ms,S=>match get S.bx i,Ee (i+1) ms S with|some ls,some os=>if i∈S.pin then (E1 i ls).map (·::os) else none|_,_=>none
 |i,.m::ms,S=>match get S.tm i,Ee (i+1) ms S with|some e,some os=>if i∈S.pin/\Fb e.sh e.cs.length=true then (Zz e.cs).map (·::os) else none|_,_=>none
 |i,_::ms,S=>Ee (i+1) ms S
def fin(ms:List Md)(rs:List G7)(S:St)(sh:Sh)(cs:List T)(outs:List (List T)):Prop:=
 ∃S',Z3 rs S=some (S',sh,cs)/\Ee 0 ms S'=some outs
def Fy:List Md->List V->List (List T)->Bool| [],[],[]=>true|.b::ms,.b cs::vs,o::os=>o.length==cs.length&&Fy ms vs os|.b::_,_,_=>false|.m::ms,_::vs,_::os=>Fy ms vs os|.v::ms,_::vs,os=>Fy ms vs os|.p::ms,_::vs,os=>Fy ms vs os|.o::ms,_::vs,os=>Fy ms vs os|_,_,_=>false
def T1(id:Nat)(vs:List V)(sh:Sh)(cs:List T)(outs:List (List T)):Prop:=
 id≠1/\if id % 2=0 then
  ∃x xs y ys i,vs=[.o .one [x],.v .one [.int .i64 i],.v .one [y]]/\content x=some xs/\eOf (id / 2) x=true/\content y=some ys/\eOf (id / 2) y=true/\F6 xs=true/\F6 ys=true/\0<=i/\i.toNat<=xs.length/\ys≠[]/\xs.length+ys.length<=lim /\
   sh=.one/\cs=[.sl (id / 2) (xs.take i.toNat++ys++xs.drop i.toNat)]/\outs=[]
 else
  ∃xs i j,vs=[.o .one [.sl (id / 2) xs],.v .one [.int .i64 i],.v .one [.int .i64 j]]/\F6 xs=true/\0<=i/\i<j/\j<=xs.length /\
   sh=.one/\cs=[.sl (id / 2) (xs.take i.toNat++xs.drop j.toNat)]/\outs=[]
def XD(Rn:Rel):B3->List V->Sh->List T->List (List T)->Prop
 |.mk ms rs body,vs,sh,cs,outs=>∃S0,initK 0 ms vs ⟨[],[],[]⟩=some S0 /\
  wp Rn body S0 (fun e S=>match e with|.x _=>False|_=>fin ms rs S sh cs outs)/\Fy ms vs outs=true
 |.Mf id _,vs,sh,cs,outs=>T1 id vs sh cs outs
def Ji:Rel:=fun f vs sh cs outs=>∀Rn:Rel,(∀f vs sh cs outs,XD Rn f vs sh cs outs->Rn f vs sh cs outs)->Rn f vs sh cs outs
end Lv
namespace Lv
open Go
abbrev Blk:=Nat->Prop
def Sc:T->Value->Prop|.top,_=>True|.un,v=>v.oneCell'=true|.int k n,v=>v=.int k n|.bool b,v=>v=.bool b|.str s,v=>v=.string ⟨s.toArray⟩|.nil,v=>v=.slice none 0 0|.np,v=>v=.pointer none|.sl _ _,_=>False|.mp _,_=>False
structure Still(w w':World):Prop where
 size:w.heap.size<=w'.heap.size
 os:w'.os=w.os
 output:w'.output=w.output
 frozen:∀a,a.block<w.heap.size->w'.frozen? a=w.frozen? a
theorem Still.refl{w:World}:Still w w:=⟨Ab _,rfl,rfl,fun _ _=>rfl⟩
theorem Still.trans{w w' j:World}(h:Still w w')(c:Still w' j):Still w j:=
 ⟨Nat.le_trans h.size c.size,c.os.trans h.os,c.output.trans h.output,fun a e=>(c.frozen a (BF e h.size)).trans (h.frozen a e)⟩
theorem Still.drawn{w:World}(n:Nat):Still w { w with drawn:=n}:=⟨Ab _,rfl,rfl,fun _ _=>rfl⟩
theorem Still.alloc{w:World}{o:Obj}:Still w { w with heap:=w.heap.push o}:=by
 refine⟨by simp,rfl,rfl,fun a h=>?_⟩;unfold World.frozen?;simp[Fl,Mm h]
theorem Still.old{w w':World}(j:w.heap.size<=w'.heap.size)(c:w'.os=w.os)(e:w'.output=w.output)(q:∀b,b<w.heap.size->w'.heap[b]?=w.heap[b]?):Still w w':=by
 refine⟨j,c,e,fun a h=>?_⟩;unfold World.frozen?;rw[q _ h]
theorem Still.setRow{w:World}{b:Nat}{row:Array Value}:Still w (w.setRow b row):=by
 refine⟨by simp[World.setRow],rfl,rfl,fun a _=>?_⟩
 grind[World.frozen?,World.setRow]
def Eg(w:World)(blk:Nat)(arr:Array Value)(E:TypeId)(e:Nat):Prop:=∃fr:Nat×Nat,w.heap[blk]?=some (.cells arr E fr)/\(fr.2=0\/arr.size<=fr.1/\e=1)
theorem Eg.of{w:World}{blk:Nat}{arr:Array Value}{E:TypeId}{e:Nat}(h:w.heap[blk]?=some (.cells arr E (0,0))):Eg w blk arr E e:=⟨_,h,.inl rfl⟩
theorem Eg.cell{e:Nat}{w:World}{blk:Nat}{arr:Array Value}{E:TypeId}(h:Eg w blk arr E e)(o:Nat):w.cell? ⟨blk,o,none⟩=arr[o]?:=by
 obtain⟨fr,h,_⟩:=h;simp[World.cell?,h]
theorem Eg.lt{e:Nat}{w:World}{blk:Nat}{arr:Array Value}{E:TypeId}(h:Eg w blk arr E e):blk<w.heap.size:=by
 obtain⟨fr,h,_⟩:=h;exact(Av.1 h).1
theorem Eg.same{e:Nat}{w w':World}{blk:Nat}{arr:Array Value}{E:TypeId}(h:Eg w blk arr E e)(j:w'.heap[blk]?=w.heap[blk]?):Eg w' blk arr E e:=by
 obtain⟨fr,h,c⟩:=h;exact⟨fr,j.trans h,c⟩
theorem Eg.set{e:Nat}{w:World}{blk:Nat}{arr new:Array Value}{E:TypeId}(h:Eg w blk arr E e)(j:new.size=arr.size):Eg (w.setRow blk new) blk new E e:=by
 obtain⟨fr,h,c⟩:=h;refine⟨fr,?_,by rw[j];exact c⟩;simp[World.setRow,FF,h]
theorem Eg.ATm{e:Nat}{w:World}{blk:Nat}{arr:Array Value}{E:TypeId}(h:Eg w blk arr E e){o:Nat}(j:o<arr.size):w.frozen? ⟨blk,o,none⟩=false:=by
 obtain⟨fr,h,c⟩:=h
 grind[World.frozen?,Bool.and_eq_false_iff,decide_eq_false_iff_not]
theorem rY{α:Type}(xs:Array α)(i:Nat)(f g:α->α)(h:∀x,xs[i]?=some x->f x=g x):xs.modify i f=xs.modify i g:=by
 grind
theorem zn{e:Nat}{w:World}{blk o:Nat}{arr:Array Value}{E:TypeId}{v:Value}(h:Eg w blk arr E e):w.setCell ⟨blk,o,none⟩ v=w.setRow blk (arr.setIfInBounds o v):=by
 obtain⟨fr,h,_⟩:=h
 grind[World.setCell,World.setRow,rY]
theorem setRow_setRow{w:World}{blk:Nat}{x y:Array Value}:(w.setRow blk x).setRow blk y=w.setRow blk y:=by
 unfold World.setRow;congr 1
 grind
theorem XH{blk e:Nat}{E:TypeId}:∀(vs:List Value) (o:Nat) (arr:Array Value) (w:World),Eg w blk arr E e->o+vs.length<=arr.size ->
 w.setCells blk o vs=w.setRow blk (arr.toList.take o++vs++arr.toList.drop (o+vs.length)).toArray
 | [],o,arr,w,h,_=>by
  obtain⟨fr,h,_⟩:=h;simp only[World.setCells,List.append_nil,AP,Cm,List.take_append_drop,Array.toArray_toList];exact(setRow_self w blk arr E fr h).symm
 |v::r,o,arr,w,h,q=>by
  simp only[AI]at q;have c:o<arr.size:=by omega
  rw[World.setCells,zn h,XH r (o+1) (arr.setIfInBounds o v) _ (h.set (by simp)) (by simp;omega),setRow_setRow];congr 2;simp only[Array.toList_setIfInBounds,AI];rw[List.set_eq_take_append_cons_drop,if_pos (by simpa using c)];have j:(arr.toList.take o).length=o:=by simp;omega
  rw[List.take_append,List.drop_append,j];simp only[show o+1-o=1 from by omega,List.take_succ_cons,List.take_zero];rw[List.take_of_length_le (by omega),List.drop_eq_nil_of_le (by omega)];simp only[List.nil_append,show o+1+r.length-o=r.length+1 from by omega,List.drop_succ_cons,List.drop_drop,Bv,List.cons_append];congr 4;omega
theorem Er{e:Nat}{P:Program}{w:World}{g o:Nat}{cur:Array Value}{E:TypeId}{vs:List Value}(h:Eg w g cur E e)(y:o+vs.length<=cur.size)(c:∀v∈vs,v.oneCell'=true) :
 (storeCells ⟨g,o,none⟩ vs 0).run P w=.ok () (w.setRow g (cur.toList.take o++vs++cur.toList.drop (o+vs.length)).toArray):=by
 rw[run_storeCells_cells (P:=P) g o vs 0 w ?_ ?_ c]
 .grind[XH]
 .intro j q;rw[h.cell];simp;omega
 .intro j q;exact h.ATm (by omega)
def ZO(e:MapEntry):Value×Value:=(e.key,e.val)
def Zh(p:Int×Int):Value×Value:=(.int .i64 p.1,.int .i64 p.2)
def aw(w:World)(blk:Nat)(ks:List (Int×Int)):Prop:=∃es clock,w.heap[blk]?=some (.map es clock)/\es.toList.map ZO=ks.map Zh
theorem aw.lt{w:World}{blk:Nat}{ks:List (Int×Int)}(h:aw w blk ks):blk<w.heap.size:=by
 obtain⟨_,_,h,_⟩:=h;exact(Av.1 h).1
theorem aw.same{w w':World}{blk:Nat}{ks:List (Int×Int)}(h:aw w blk ks)(q:w'.heap[blk]?=w.heap[blk]?):aw w' blk ks:=by
 obtain⟨es,c,e,j⟩:=h;exact⟨es,c,q.trans e,j⟩
inductive View(w:World)(B:Blk):T->Value->Prop
 |sc {x:T} {v:Value}:Sc x v->View w B x v|sl {e:Nat} {xs:List (List T)} {a:Addr} {len cap:Nat} (c:Nat->Nat->Value):len=xs.length->len<=cap->(∀row∈xs,row.length=e) ->
  (xs≠[]->a.spot=none/\B a.block) ->
  (∀i j x,at2 xs i j=some x->w.cell? ⟨a.block,a.off+i*e+j,none⟩=some (c i j)) ->
  (∀i j x,at2 xs i j=some x->View w B x (c i j))->View w B (.sl e xs) (.slice (some a) len cap)
 |nl {e:Nat}:View w B (.sl e []) (.slice none 0 0)|mp {ks:List (Int×Int)} {blk:Nat}:aw w blk ks->B blk->View w B (.mp ks) (.map (some blk))
inductive Own(w:World):T->Value->Blk->Prop
 |sc {x:T} {v:Value} {S:Blk}:Sc x v->v.oneCell'=true->(∀b,¬S b)->Own w x v S|sl {e:Nat} {xs:List (List T)} {blk off len cap:Nat} {arr:Array Value} {E:TypeId} {S:Blk} (c:Nat->Nat->Value) (f:Nat->Nat->Blk) :
  len=xs.length->len<=cap->(∀row∈xs,row.length=e)->Eg w blk arr E e->off+cap*e<=arr.size ->
  (∀i j x,at2 xs i j=some x->arr[off+i*e+j]?=some (c i j)) ->
  (∀i j x,at2 xs i j=some x->Own w x (c i j) (f i j)) ->
  (∀i j x,at2 xs i j=some x->¬f i j blk) ->
  (∀i j x i' j' x',at2 xs i j=some x->at2 xs i' j'=some x'->(i=i'->j≠j')->∀b,f i j b->¬f i' j' b) ->
  (∀b,S b↔b=blk\/∃i j x,at2 xs i j=some x/\f i j b) ->
  Own w (.sl e xs) (.slice (some ⟨blk,off,none⟩) len cap) S
 |nl {e:Nat} {S:Blk}:(∀b,¬S b)->Own w (.sl e []) (.slice none 0 0) S|mp {ks:List (Int×Int)} {blk:Nat} {S:Blk}:aw w blk ks->(∀b,S b↔b=blk)->Own w (.mp ks) (.map (some blk)) S
theorem View.mono{w w':World}{B B':Blk}{x:T}{v:Value}(h:View w B x v)(E:∀b,B b->B' b)(J:∀b,B b->w'.heap[b]?=w.heap[b]?):View w' B' x v:=by
 induction h with
 |nl=>exact .nl|mp h q=>exact .mp (h.same (J _ q)) (E _ q)|sc h=>exact .sc h|@sl e xs a len cap c G q H y Q X O=>
  refine .sl c G q H (fun h=>⟨(y h).1,E _ (y h).2⟩) ?_ O;intro i j x L;have I:xs≠[]:=by
   rintro rfl;simp[at2]at L
  grind[World.cell?]
theorem Own.frame{w w':World}{S:Blk}{x:T}{v:Value}(h:Own w x v S)(y:∀b,S b->w'.heap[b]?=w.heap[b]?):Own w' x v S:=by
 induction h with
 |nl e=>exact .nl e|mp h e=>exact .mp (h.same (y _ ((e _).2 rfl))) e|sc h q e=>exact .sc h q e|sl c f q B E G H I O J L j Q=>
  refine .sl c f q B E (G.same (y _ ((j _).2 (.inl rfl)))) H I ?_ J L j
  grind
theorem Own.congr{w:World}{S S':Blk}{x:T}{v:Value}(h:Own w x v S)(e:∀b,S' b↔S b):Own w x v S':=by
 cases h with
 |nl E=>exact .nl fun b B=>E b ((e b).1 B)|mp h y=>exact .mp h fun b=>(e b).trans (y b)|sc h j E=>exact .sc h j fun b B=>E b ((e b).1 B)|sl c f j y G H I J L O Q q=>exact .sl c f j y G H I J L O Q fun b=>(e b).trans (q b)
theorem Own.lt{w:World}{S:Blk}{x:T}{v:Value}(h:Own w x v S):∀b,S b->b<w.heap.size:=by
 induction h with
 |nl q=>exact fun b e=>(q b e).elim|mp h q=>intro b e;rw[(q b).1 e];exact h.lt
 |sc h B q=>exact fun b e=>(q b e).elim|sl c f B I J E L O Q X Y y H=>
  intro b e;rcases(y b).1 e with rfl|⟨i,j,x,G,e⟩
  .exact E.lt
  .exact H i j x G b e
theorem Own.view{w:World}{S:Blk}{x:T}{v:Value}(h:Own w x v S):View w S x v:=by
 induction h with
 |sc h _ y=>exact .sc h|nl=>exact .nl|mp h y=>exact .mp h ((y _).2 rfl)|sl c f B E G H O I Q X Y e L=>
  refine .sl c B E G (fun _=>⟨rfl,(e _).2 (.inl rfl)⟩) ?_ ?_
  .intro i j x q;rw[H.cell];exact I i j x q
  .intro i j x q;exact(L i j x q).mono (fun b J=>(e b).2 (.inr ⟨i,j,x,q,J⟩)) fun _ _=>rfl
theorem Sc.one{x:T}{v:Value}(h:Sc x v)(e:Ra x=false):v.oneCell'=true:=by
 cases x with
 |top=>cases e
 |un=>exact h|sl=>exact h.elim|mp=>exact h.elim|_=>have c:v=_:=h;subst c;rfl
theorem Own.one{w:World}{S:Blk}{x:T}{v:Value}(h:Own w x v S):v.oneCell'=true:=by
 cases h with
 |sc _ h _=>exact h|sl=>rfl|nl=>rfl|mp=>rfl
theorem nj{xs:List (List T)}{i j:Nat}{x:T}(h:at2 xs i j=some x):i<xs.length:=by
 grind[at2,List.getElem?_eq_some_iff]
theorem OO{xs:List (List T)}{e i j:Nat}{x:T}(h:at2 xs i j=some x)(c:∀row∈xs,row.length=e):j<e:=by
 grind[at2,List.mem_of_getElem?,List.getElem?_eq_some_iff]
theorem OP{xs:List (List T)}{lo n i j:Nat}{x:T}(h:at2 ((xs.drop lo).take n) i j=some x):i<n/\at2 xs (lo+i) j=some x:=by
 grind[at2]
theorem Own.sub{w:World}{S:Blk}{e:Nat}{xs:List (List T)}{blk off len cap:Nat}(h:Own w (.sl e xs) (.slice (some ⟨blk,off,none⟩) len cap) S){lo n off' cap':Nat}
 (hn:lo+n<=len) (Z:n<=cap') (I:cap'<=cap-lo) (ho:cap'≠0->off'=off+lo*e) (ho':off'<=off+lo*e) :
 ∃S':Blk,(∀b,S' b->S b)/\Own w (.sl e ((xs.drop lo).take n)) (.slice (some ⟨blk,off',none⟩) n cap') S':=by
 cases h with
 |sc h _ _=>exact h.elim|sl c f h1 h2 J L h5 h6 O Q X y=>
  refine⟨fun b=>b=blk\/∃i j x,at2 ((xs.drop lo).take n) i j=some x/\f (lo+i) j b,?_,?_⟩
  .rintro b (rfl|⟨i,j,x,q,Y⟩)
   .exact(y _).2 (.inl rfl)
   .exact(y _).2 (.inr ⟨_,_,_,(OP q).2,Y⟩)
  .have E:(lo+cap')*e<=cap*e:=Nat.mul_le_mul_right _ (by omega);rw[Nat.add_mul]at E;refine .sl (fun i j=>c (lo+i) j) (fun i j=>f (lo+i) j) (by simp;omega) Z ?_ L (by omega) ?_ ?_ ?_ ?_ (fun b=>Iff.rfl)
   .intro row B;exact J row (List.mem_of_mem_drop (List.mem_of_mem_take B))
   .intro i j x q;have h:=OP q
    grind[Nat.add_mul]
   .intro i j x q;exact O _ _ _ (OP q).2
   .intro i j x q;exact Q _ _ _ (OP q).2
   .intro i j x i' j' x' q H G;exact X _ _ _ _ _ _ (OP q).2 (OP H).2 (by intro h;exact G (by omega))
def tOf:Value->Option T|.int k n=>some (.int k n)|.bool b=>some (.bool b)|.string s=>some (.str s.data.toList)|.slice none 0 0=>some .nil|.pointer none=>some .np|_=>none
def AQ5:T->T->Bool|.int k a,.int k' b=>decide (k=k')&&decide (a=b)|.bool a,.bool b=>a==b|.str a,.str b=>decide (a=b)|.nil,.nil=>true|.np,.np=>true|_,_=>false
def QU(v:Value)(x:T):Bool:=match tOf v with|some y=>AQ5 y x|none=>false
def AGD(v:Value)(x:T):Bool:=match v,x with|.slice none 0 0,.sl _ []=>true|_,_=>false
def TI:List Value->List T->Bool| [],[]=>true|v::vs,x::xs=>QU v x&&TI vs xs|_,_=>false
def Bu:Operand->Opd->Bool|.tmp t,.tmp t'=>t==t'|.const v,.k x=>QU v x||AGD v x|.func _,.fn _=>true|_,_=>false
def By:Operand->Opd->List (Nat×B3)|.func f,.fn g=>[(f,g)]|_,_=>[]
def O9:List Operand->List Opd->Bool| [],[]=>true|a::as,b::bs=>Bu a b&&O9 as bs|_,_=>false
def D5:List Operand->List Opd->List (Nat×B3)|a::as,b::bs=>By a b++D5 as bs|_,_=>[]
def UH:Option Operand->Option Opd->Bool|none,none=>true|some a,some b=>Bu a b|_,_=>false
def Sl:Option Operand->Option Opd->List (Nat×B3)|some a,some b=>By a b|_,_=>[]
section
variable(P:Program)
def Sa:TypeDesc->Bool|.struct _=>true|_=>false
def O8:TypeDesc->Bool|.struct _|.array _ _=>true|_=>false
def I3(t:TypeId)(n:Option Nat):Bool:=
 match P.underlying t,P.info? t with
 |some d,some i=>(match n with|some k=>Sa d&&i.size==k|none=>!O8 d&&i.size==1)
 |_,_=>false
def Y3(t:TypeId)(zs:List T):Bool:=
 match P.info? t with
 |some i=>(match i.zero with|some v=>TI v.cells.toList zs|none=>false)&&i.size==zs.length
 |none=>false
def Xg:List Value->List T->Bool| [],[]=>true|v::vs,x::xs=>(QU v x||AGD v x)&&Xg vs xs|_,_=>false
def zg(t:TypeId)(zs:List T):Bool:=
 match P.info? t with
 |some i=>(match i.zero with|some v=>Xg v.cells.toList zs|none=>false)&&i.size==zs.length
 |none=>false
def MV(P:Program)(el:TypeId):Bool:=match P.info? el with|some i=>(match i.zero with|some z=>z.cells.size==i.size&&decide (0<i.bytes)|none=>false)|none=>false
def E3(t:TypeId)(e:Nat):Bool:=
 match P.underlying t with
 |some (.slice el)=>(match P.info? el with|some i=>i.size==e&&decide (i.bytes<=65536)&&decide (0<e)|none=>false)
 |_=>false
def isStr(t:TypeId):Bool:=match P.underlying t with|some .string=>true|_=>false
def isInt(t:TypeId)(k:IntKind):Bool:=match P.underlying t with|some (.int k')=>decide (k'=k)|_=>false
def M9(t:TypeId):Bool:=match P.underlying t with|some (.map k e)=>isInt P k .i64&&(match P.info? e with|some i=>(match i.zero with|some (.int .i64 n)=>n==0|_=>false)|none=>false)|_=>false
def Qu(t:TypeId):Bool:=match P.underlying t with|some (.slice el)=>isInt P el .u8&&E3 P t 1|_=>false
def We(t:TypeId)(f off:Nat):Bool:=
 match P.underlying t with
 |some (.struct fs)=>(match fs[f]? with|some x=>x.offset==off&&(match P.info? x.type with|some i=>decide (0<i.size)|none=>false)|none=>false)
 |_=>false
def Pn(fs:Array Field):List (Nat×Operand)->List (Nat×Nat×Opd)->Bool
 | [],[]=>true|(i,x)::ps,(o,n,y)::qs=>(match fs[i]? with|some f=>f.offset==o&&(match P.info? f.type with|some t=>t.size==n|none=>false)|none=>false)&&Bu x y&&Pn fs ps qs
 |_,_=>false
def NN:List (Nat×Operand)->List (Nat×Nat×Opd)->List (Nat×B3)|(_,x)::ps,(_,_,y)::qs=>By x y++NN ps qs|_,_=>[]
def Tg:List (Nat×Operand)->List (Nat×Opd)->Bool| [],[]=>true|(i,x)::ps,(o,y)::qs=>i==o&&Bu x y&&Tg ps qs|_,_=>false
def P9:List (Nat×Operand)->List (Nat×Opd)->List (Nat×B3)|(_,x)::ps,(_,y)::qs=>By x y++P9 ps qs|_,_=>[]
def AUM(t:TypeId)(k:Kd):Bool:=
 match P.underlying t,k with
 |some (.int _),.i=>true|some .bool,.b=>true|some .string,.s=>true|_,_=>false
def Po(sub:TypeId->List Kd->Bool):Nat->List Field->List Kd->Bool
 |_,[],[]=>true|o,f::fs,ks=>f.name != "_" && f.offset==o&&((match ks with|k::ks=>AUM P f.type k&&Po sub (o+1) fs ks | []=>false) ||
  (match P.info? f.type with|some i=>sub f.type (ks.take i.size)&&Po sub (o+i.size) fs (ks.drop i.size)|none=>false))
 |_,_,_=>false
def yV:Nat->TypeId->List Kd->Bool
 |0,_,_=>false|n+1,t,ks=>match P.underlying t with|some (.struct fs)=>Po P (yV n) 0 fs.toList ks&&!P.stoodInHeld t|_=>false
def uS(c:Cls)(t:TypeId):Bool:=
 match c,P.underlying t with
 |.num,_=>true|.bool,some .bool=>true|.sl,some (.slice _)=>true|.agg ks,some (.struct _)=>yV P 4 t ks&&!P.eqGuardType P.depth t|_,_=>false
def rT(d n:Nat):Bool:=decide (d<n)
def U1(N:Nat)(dst:Option Nat)(op:Op)(x:XOp):Bool:=
 (match x.gA,dst with|some d,some d'=>d==d'&&rT d N|none,none=>true|_,_=>false) &&
 match op,x with
 |.move a,.mv _ b=>Bu a b|.assign a,.as _ b=>Bu a b|.pick c a b,.pick _ c' a' b'=>Bu c c'&&Bu a a'&&Bu b b'|.alloc t,.alloc _ zs=>Y3 P t zs|.box _ a,.box _ b=>Bu a b|.build t ps,.build _ zs qs=>Y3 P t zs&&(match P.underlying t with|some (.struct fs)=>fs.toList.all (fun f=>(P.info? f.type).isSome)&&Pn P fs ps.toList qs|_=>false)
 |.buildSlice t n ps,.Br _ n' zs qs=>n==n'&&E3 P t zs.length&&(match P.underlying t with|some (.slice el)=>zg P el zs|_=>false)&&Tg ps.toList qs
 |.load t a,.ld _ n b=>I3 P t n&&Bu a b|.store t a v,.st n a' v'=>(match P.info? t with|some i=>i.size==n % 1048576|none=>false)&&Bu a a'&&Bu v v'
 |.nilCheck a,.chk _ b=>Bu a b|.binOp op t a b _,.bin _ c op' a' b'=>decide (op=op')&&Bu a a'&&Bu b b'&&uS P c t|.unOp op _ a,.un _ op' b=>decide (op=op')&&Bu a b|.convert s t a,.cvI _ k b=>Bu a b&&isInt P t k&&(match P.underlying s with|some (.int _)=>true|_=>false)
 |.convert s t a,.QW _ b=>Bu a b&&isStr P s&&Qu P t|.convert s t a,.Rt _ b=>Bu a b&&Qu P s&&isStr P t|.makeFunc (.func _) first caps,.N2 _ _ caps'=>first.isEmpty&&O9 caps.toList caps'
 |.makeSlice t n c,.Ux _ zs n' c'=>E3 P t zs.length&&(match P.underlying t with|some (.slice el)=>zg P el zs|_=>false)&&Bu n n'&&Bu c c'
 |.slice t a lo hi mx,.sub _ e b lo' hi'=>Bu a b&&UH lo lo'&&UH hi hi'&&mx.isNone&&E3 P t e|.slice t a lo hi mx,.VF _ b lo' hi'=>Bu a b&&UH lo lo'&&UH hi hi'&&mx.isNone&&isStr P t|.fieldAddr t a f,.fa _ off b=>We P t f off&&Bu a b|.field t a f,.fld _ off n b=>We P t f off&&Bu a b&&(match P.underlying t with|some (.struct fs)=>(match fs[f]? with|some x=>I3 P x.type n|none=>false)|_=>false)
 |.indexAddr t a i,.ia _ e b i'=>E3 P t e&&Bu a b&&Bu i i'|.index t a i,.ix _ b i'=>isStr P t&&Bu a b&&Bu i i'|.extract a i,.ext _ b i'=>Bu a b&&i==i'|.call { callee:=.value (.func _),args,..},.call _ _ args'=>O9 args.toList args'|.call { callee:=.value f,args,..},.D8 _ f' _ args'=>Bu f f'&&O9 args.toList args'|.call { callee:=.builtin .len,args,argTypes},.len _ b=>(match args.toList,argTypes.toList with
  | [a],[t]=>Bu a b&&(match P.underlying t with|some (.slice _)=>true|_=>false)
  |_,_=>false)
 |.call { callee:=.builtin .len,args,argTypes},.lens _ b=>(match args.toList,argTypes.toList with
  | [a],[t]=>Bu a b&&isStr P t|_,_=>false)
 |.call { callee:=.builtin .append,args,argTypes},.app _ e _ a' b'=>(match args.toList,argTypes.toList with
  | [a,b],[t,u]=>Bu a a'&&Bu b b'&&E3 P t e&&(match P.underlying t with|some (.slice el)=>MV P el|_=>false) &&
   (match P.underlying u with|some (.slice el)=>E3 P u e&&(match P.underlying t with|some (.slice el')=>el==el'|_=>false)|some .string=>e==1&&Qu P t|_=>false)
  |_,_=>false)
 |.call { callee:=.builtin .append,args,argTypes},.Tv _ zs a' b'=>(match args.toList,argTypes.toList with
  | [a,b],[t,u]=>Bu a a'&&Bu b b'&&E3 P t zs.length&&(match P.underlying t with|some (.slice el)=>zg P el zs&&MV P el|_=>false)&&(match P.underlying u with|some (.int _)=>true|_=>false)
  |_,_=>false)
 |.call { callee:=.builtin .copy,args,argTypes},.cpy _ e a' b'=>(match args.toList,argTypes.toList with
  | [a,b],[t,u]=>Bu a a'&&Bu b b'&&E3 P t e&&E3 P u e|_,_=>false)
 |.makeMap t r,.mmk _=>r.isNone&&M9 P t|.lookup t m k ok,.Tw _ m' k'=>!ok&&M9 P t&&Bu m m'&&Bu k k'|.mapUpdate t m k v,.Sg m' k' v'=>M9 P t&&Bu m m'&&Bu k k'&&Bu v v'|.call { callee:=.builtin .len,args,argTypes},.Tx _ b=>(match args.toList,argTypes.toList with
  | [a],[t]=>Bu a b&&M9 P t|_,_=>false)
 |.call { callee:=.builtin .max,args,..},.mm _ true a' b'=>(match args.toList with | [a,b]=>Bu a a'&&Bu b b'|_=>false)
 |.call { callee:=.builtin .min,args,..},.mm _ false a' b'=>(match args.toList with | [a,b]=>Bu a a'&&Bu b b'|_=>false)
 |_,.bad _=>true|_,_=>false
end
def Dh(op:Op)(x:XOp):List (Nat×B3):=
 match op,x with
 |.move a,.mv _ b|.assign a,.as _ b|.box _ a,.box _ b|.load _ a,.ld _ _ b|.nilCheck a,.chk _ b|.unOp _ _ a,.un _ _ b|.convert _ _ a,.cvI _ _ b|.convert _ _ a,.QW _ b|.convert _ _ a,.Rt _ b|.fieldAddr _ a _,.fa _ _ b|.field _ a _,.fld _ _ _ b|.extract a _,.ext _ b _=>By a b|.pick c a b,.pick _ c' a' b'=>By c c'++By a a'++By b b'|.build _ ps,.build _ _ qs=>NN ps.toList qs|.buildSlice _ _ ps,.Br _ _ _ qs=>P9 ps.toList qs|.store _ a v,.st _ a' v'=>By a a'++By v v'|.binOp _ _ a b _,.bin _ _ _ a' b'=>By a a'++By b b'|.makeFunc (.func f) _ caps,.N2 _ g caps'=>(f,g)::D5 caps.toList caps'|.makeSlice _ n c,.Ux _ _ n' c'=>By n n'++By c c'|.slice _ a lo hi _,.sub _ _ b lo' hi'|.slice _ a lo hi _,.VF _ b lo' hi'=>By a b++Sl lo lo'++Sl hi hi'|.indexAddr _ a i,.ia _ _ b i'|.index _ a i,.ix _ b i'=>By a b++By i i'|.call { callee:=.value (.func f),args,..},.call _ g args'=>(f,g)::D5 args.toList args'|.call { callee:=.value f,args,..},.D8 _ f' _ args'=>By f f'++D5 args.toList args'|.lookup _ m k _,.Tw _ m' k'=>By m m'++By k k'|.mapUpdate _ m k v,.Sg m' k' v'=>By m m'++By k k'++By v v'|.call { args,..},.Tx _ b=>D5 args.toList [b]|.call { args,..},.len _ b|.call { args,..},.lens _ b=>D5 args.toList [b]|.call { args,..},.app _ _ _ a b|.call { args,..},.Tv _ _ a b|.call { args,..},.cpy _ _ a b|.call { args,..},.mm _ _ a b=>D5 args.toList [a,b]|_,_=>[]
def Oe(ops:Array Oper):Option (Nat×Bool)->Option (Nat×Bool)->Bool
 |none,none=>true|some (j,want),some (s,want')=>want==want'&&(match ops[j]? with|some o=>decide (o.dst=some s)|none=>false)
 |_,_=>false
def P5(P:Program)(N:Nat)(ops:Array Oper):List Oper->List (Option (Nat×Bool)×XOp)->Bool| [],[]=>true|os,(g,.drop _)::xs=>g.isNone&&P5 P N ops os xs|os,(g,.Uz _)::xs=>g.isNone&&P5 P N ops os xs|o::os,(g,x)::xs=>Oe ops o.guard g&&U1 P N o.dst o.op x&&P5 P N ops os xs|_,_=>false
def PC:List Oper->List (Option (Nat×Bool)×XOp)->List (Nat×B3)|os,(_,.drop _)::xs=>PC os xs|os,(_,.Uz _)::xs=>PC os xs|o::os,(_,x)::xs=>Dh o.op x++PC os xs|_,_=>[]
inductive ATu where
 |pure|ld|eff
def Ma:XOp->ATu|.ld _ _ _|.Rt _ _=>.ld|.alloc _ _|.box _ _|.Br _ _ _ _|.Ux _ _ _ _|.QW _ _|.app _ _ _ _ _|.Tv _ _ _ _|.cpy _ _ _ _|.st _ _ _|.mmk _|.Tw _ _ _|.Sg _ _ _|.Tx _ _|.bad _|.call _ _ _|.D8 _ _ _ _|.drop _|.Uz _=>.eff|_=>.pure
def Sb:XOp->Option Nat|.ld _ _ (.tmp s)=>some s|.Rt _ (.tmp s)=>some s|_=>none
def yN(ops:Array Oper)(j:Nat):Nat:=match ops[j]? with|some o=>o.after.toList.foldl (fun m e=>if Region.binds .any e=true then m |||2 ^ e.on else m) 0|none=>0
def AJc(ops:Array Oper):Nat->Nat->Nat
 |0,m=>m|k+1,m=>match m.testBit k with|true=>AJc ops k (m |||yN ops k)|false=>AJc ops k m
def RP(ops:Array Oper)(n j i:Nat):Bool:=(AJc ops n (yN ops j)).testBit i
def Of:Rf->List Nat|.nil=>[]|.op i _ _ _ _=>[i]|.dr _ r=>Of r|.nl _ r=>Of r|.both a b=>Of a++Of b
def H8:Rf->Nat|.nil=>0|.op _ _ _ _ r=>H8 r+1|.dr _ r=>H8 r|.nl _ r=>H8 r|.both a b=>max (H8 a) (H8 b)
def Hu(P:Program)(N:Nat)(ops:Array Oper):Bool->Rf->Array Bool->List (Nat×Nat)->Bool
 |top,.nil,L,_=>top&&(Region.ready .any ops L).isEmpty|top,.dr _ r,L,Ls=>Hu P N ops top r L Ls|top,.nl _ r,L,Ls=>Hu P N ops top r L Ls|top,.both a b,L,Ls=>(!top||(!(Region.ready .any ops L).isEmpty&&(Region.ready .any ops L).all (fun j=>(Of a++Of b).contains j)))&&Hu P N ops false a L Ls&&Hu P N ops false b L Ls|top,.op i g sf x r,L,Ls=>match ops[i]? with
  |none=>false|some o=>Oe ops o.guard g&&U1 P N o.dst o.op x&&Ls.all (fun t=>!(o.dst==some t.2))&&(match Ma x with
   |.pure=>top&&(Region.ready .any ops L).contains i&&Region.free .any ops L i&&Hu P N ops true r (L.setIfInBounds i true) Ls|.ld=>top&&(Region.ready .any ops L).contains i&&Region.free .any ops L i&&(match Sb x with|some s=>!(o.dst==some s)&&Hu P N ops true r (L.setIfInBounds i true) ((i,s)::Ls)|none=>false)
   |.eff=>(!top||((Region.ready .any ops L).contains i&&(Region.ready .any ops L).all (fun j=>j==i)))&&Ls.all (fun t=>sf.contains t.2||RP ops ops.size i t.1)&&Hu P N ops true r (L.setIfInBounds i true) Ls)
def bA(n m:Nat):Array Bool:=((List.range n).map fun i=>m.testBit i).toArray
def DB{α:Type}(n:Nat)(K:Nat->α):α:=match n with|0=>K 0|k+1=>K (k+1)
theorem Fj{α:Type}(n:Nat)(K:Nat->α):DB n K=K n:=by cases n<;>rfl
def rf(P:Program)(N:Nat)(ops:Array Oper)(top:Bool)(i:Nat)(g:Option (Nat×Bool))(sf:List Nat)(x:XOp)(L:Array Bool)(Ls:List (Nat×Nat)):Bool:=match ops[i]? with
 |none=>false|some o=>Oe ops o.guard g&&U1 P N o.dst o.op x&&Ls.all (fun t=>!(o.dst==some t.2))&&(match Ma x with
  |.pure=>top&&(Region.ready .any ops L).contains i&&Region.free .any ops L i|.ld=>top&&(Region.ready .any ops L).contains i&&Region.free .any ops L i&&(match Sb x with|some s=>!(o.dst==some s)|none=>false)
  |.eff=>(!top||((Region.ready .any ops L).contains i&&(Region.ready .any ops L).all (fun j=>j==i)))&&Ls.all (fun t=>sf.contains t.2||RP ops ops.size i t.1))
def Mi(P:Program)(N:Nat)(ops:Array Oper):Bool->Rf->Nat->List (Nat×Nat)->Bool
 |top,.nil,m,_=>top&&(Region.ready .any ops (bA ops.size m)).isEmpty|top,.dr _ r,m,Ls=>Mi P N ops top r m Ls&&true|top,.nl _ r,m,Ls=>Mi P N ops top r m Ls&&true|top,.both a b,m,Ls=>Mi P N ops false a m Ls&&(Mi P N ops false b m Ls&&(!top||(!(Region.ready .any ops (bA ops.size m)).isEmpty&&(Region.ready .any ops (bA ops.size m)).all (fun j=>(Of a++Of b).contains j))))|top,.op i g sf x r,m,Ls=>match Sb x with|some s=>DB (m |||2 ^ i) fun m'=>Mi P N ops true r m' ((i,s)::Ls)&&rf P N ops top i g sf x (bA ops.size m) Ls|none=>DB (m |||2 ^ i) fun m'=>Mi P N ops true r m' Ls&&rf P N ops top i g sf x (bA ops.size m) Ls
theorem AQb(n:Nat):bA n 0=Array.replicate n false:=by
 apply Array.ext
 .simp[bA]
 .intro i c e;simp[bA]
theorem AJi(n m i:Nat):(bA n m).setIfInBounds i true=bA n (m |||2 ^ i):=by
 apply Array.ext
 .simp[bA]
 .intro j c e;simp only[bA,List.setIfInBounds_toArray,List.getElem_toArray,List.getElem_set,List.getElem_map,List.getElem_range,Nat.testBit_or,Nat.testBit_two_pow]
  grind
theorem y1{x:XOp}{s:Nat}(h:Sb x=some s):Ma x=.ld:=by
 unfold Sb at h;split at h<;>first|rfl|cases h
theorem LW{P:Program}{N:Nat}{ops:Array Oper}:∀(r:Rf) (top:Bool) (m:Nat) (Ls:List (Nat×Nat)),Mi P N ops top r m Ls=true->Hu P N ops top r (bA ops.size m) Ls=true
 |.nil,top,m,Ls,h=>h|.dr _ r,top,m,Ls,h=>by
  simp only[Mi,CA]at h;simpa only[Hu] using LW r top m Ls h
 |.nl _ r,top,m,Ls,h=>by
  simp only[Mi,CA]at h;simpa only[Hu] using LW r top m Ls h
 |.both a b,top,m,Ls,h=>by
  simp only[Mi,AF]at h;obtain⟨e,c,q⟩:=h;simp only[Hu,AF];exact⟨⟨q,LW a false m Ls e⟩,LW b false m Ls c⟩
 |.op i g sf x r,top,m,Ls,h=>by
  unfold Mi at h;unfold Hu;split at h
  .rename_i s j;rw[Fj,AF]at h;obtain⟨e,c⟩:=h;have e:=LW r true _ _ e;rw[<-AJi]at e;unfold rf at c;have y:=y1 j;split at c
   .cases c
   .simp only[y,j,AF]at c ⊢;exact⟨c.1,⟨c.2.1,⟨c.2.2,e⟩⟩⟩
  .rename_i j;rw[Fj,AF]at h;obtain⟨e,c⟩:=h;have e:=LW r true _ _ e
   grind[AJi,rf]
def Mh(ops:Array Oper):Rf->List (Nat×B3)
 |.nil=>[]|.op i _ _ x r=>(match ops[i]? with|some o=>Dh o.op x|none=>[])++Mh ops r
 |.dr _ r=>Mh ops r|.nl _ r=>Mh ops r|.both a b=>Mh ops a++Mh ops b
def codeOk(P:Program)(N:Nat):Code->NZ->Bool|.skip,.skip=>true|.region _ ops d,.region xs _=>!d&&P5 P N ops ops.toList xs|.region _ ops d,.Pj r _=>d&&P.follows .mixedOrders&&Region.noSelect ops&&decide (H8 r<=ops.size)&&Mi P N ops true r 0 []|.seq a b,.seq a' b'=>codeOk P N a a'&&codeOk P N b b'|.cond (.tmp c) t e,.cond c' _ _ t' e'=>c==c'&&codeOk P N t t'&&codeOk P N e e'|.block id b,.block id' b'=>id==id'&&codeOk P N b b'|.loop b,.loop b'=>codeOk P N b b'|.exit id,.exit id'=>id==id'|.ret,.ret=>true|.scope b,.scope b'=>codeOk P N b b'|.cond (.const (.bool true)) t _,.scope x=>codeOk P N t x|.cond (.const (.bool false)) _ e,.scope x=>codeOk P N e x|c,.or a b=>codeOk P N c a&&codeOk P N c b|_,.dead=>true|_,_=>false
def Dp:Code->NZ->List (Nat×B3)|.region _ ops _,.region xs _=>PC ops.toList xs|.region _ ops _,.Pj r _=>Mh ops r|.seq a b,.seq a' b'=>Dp a a'++Dp b b'|.cond _ t e,.cond _ _ _ t' e'=>Dp t t'++Dp e e'|.block _ b,.block _ b'=>Dp b b'|.loop b,.loop b'=>Dp b b'|.scope b,.scope b'=>Dp b b'|.cond (.const (.bool true)) t _,.scope x=>Dp t x|.cond (.const (.bool false)) _ e,.scope x=>Dp e x|c,.or a b=>Dp c a++Dp c b|_,_=>[]
def HH(P:Program):List ResultVar->List G7->Bool| [],[]=>true|.tmp t::rs,.tmp t'::xs=>t==t'&&HH P rs xs|.cell t ty::rs,.cell t' n::xs=>t==t'&&I3 P ty n&&HH P rs xs|.tmp t::rs,.bx t'::xs=>t==t'&&HH P rs xs|.tmp t::rs,.vw t' _::xs=>t==t'&&HH P rs xs|.cell t ty::rs,.un t' n::xs=>t==t'&&I3 P ty (some n)&&HH P rs xs|_,_=>false
def YE(P:Program)(fn:Func)(c:Code):B3->Bool|.mk ms rs body=>decide (ms.length<=fn.ntmps)&&HH P fn.results.toList rs&&codeOk P fn.ntmps c body&&fn.name != "runtime.NumGoroutine"|.Mf _ _=>false
def AFr(c:Code):B3->List (Nat×B3)|.mk _ _ body=>Dp c body|.Mf _ _=>[]
inductive Mt(A:Nat->Nat->List Md->Prop)(P:Program):Nat->B3->Prop|Mf {n id:Nat} {ms:List Md}:A n id ms->Mt A P n (.Mf id ms)|mk {n:Nat} {f:B3} {fn:Func} {c:Code}:P.funcs[n]?=some fn->fn.body=some c->YE P fn c f=true->(∀p∈AFr c f,Mt A P p.1 p.2)->Mt A P n f
def Ip:List (Option Nat)->List Value->List Value| [],_=>[]|none::ns,vs=>vs.headD undef::Ip ns (vs.drop 1)|some n::ns,vs=>.agg (vs.take n).toArray::Ip ns (vs.drop n)
def mkV:Sh->List Value->Value|.one,vs=>vs.headD undef|.agg,vs=>.agg vs.toArray|.tup ns,vs=>.tuple (Ip ns vs).toArray|.ptr _,vs=>vs.headD undef|.vw _,vs=>vs.headD undef
structure Fix where
 P:Program
 A:Nat->Nat->List Md->Prop
 R:Nat->Blk
 K:Blk
 RK:∀k b,R k b->K b
 w0:World
 pv:Nat->Value
 β0:Nat->Nat
 N:Nat
structure Gh where
 β:Nat->Nat
 tv:Nat->List Value
 bv:Nat->List Value
 fp:B0->Blk
def Gh.rv(g:Gh):B0->Option Value|.tmp s c=>(g.tv s)[c]?|.cell b c=>(g.bv b)[c]?
def UU(w:World)(B:Blk)(cs:List T)(v:Value):Prop:=
 ∃(a:Addr) (c:Nat->Value),v=.pointer (some a)/\a.spot=none/\∀j x,cs[j]?=some x->B a.block/\w.cell? ⟨a.block,a.off+j,none⟩=some (c j)/\View w B x (c j)
def AGo(w:World)(B:Blk)(cs:List T)(v:Value):Prop:=
 ∃(a:Addr) (c:Nat->Value) (f:Nat->Blk),v=.pointer (some a)/\a.spot=none /\
  ∀j x,cs[j]?=some x->B a.block/\w.cell? ⟨a.block,a.off+j,none⟩=some (c j)/\(∀b,f j b->B b)/\Own w x (c j) (f j)
def AQP(x:T)(sub:Option (Nat×Nat))(u v:Value):Prop:=
 match sub with
 |none=>v=u|some (lo,n)=>match x with
  |.sl e xs=>(∃blk off len cap off' cap',u=.slice (some ⟨blk,off,none⟩) len cap/\v=.slice (some ⟨blk,off',none⟩) n cap'/\lo+n<=xs.length/\cap'=cap-lo /\
   (cap'≠0->off'=off+lo*e)/\off'<=off+lo*e)\/(u=.slice none 0 0/\v=.slice none 0 0/\xs=[]/\lo=0/\n=0)
  |_=>v=u/\lo=0/\n=0
def Ef(F:Fix)(g:Gh)(w:World):AS->Value->Prop|.t x,v=>Sc x v|.und,v=>v=undef|.vw (.old k) e xs,v=>View w (F.R k) (.sl e xs) v|.vp (.old k) cs,v=>UU w (F.R k) cs v|.bp id off,v=>v=.pointer (some ⟨g.β id,off,none⟩)|_,_=>False
def B1(S:St)(r:B0):Prop:=∃x,S.at r=some (.ow x)
def AtC(S:St)(g:Gh)(w:World)(r:B0)(p:Option (Nat×Nat))(e:Nat)(xs:List (List T))(v:Value):Prop:=
 match p with
 |none=>True|some (i,j)=>∃e0 rows blk off len cap,S.at r=some (.ow (.sl e0 rows))/\g.rv r=some (.slice (some ⟨blk,off,none⟩) len cap)/\at2 rows i j=some (.sl e xs) /\
  g.fp r blk/\w.cell? ⟨blk,off+i*e0+j,none⟩=some v
def Bc(F:Fix)(S:St)(g:Gh)(w:World)(fp:Blk):AS->Value->Prop
 |.ow x,v=>Own w x v fp|.al r sub,v=>∃x u,S.at r=some (.ow x)/\g.rv r=some u/\AQP x sub u v|.ep r i j,v=>∃e xs blk off len cap,S.at r=some (.ow (.sl e xs))/\g.rv r=some (.slice (some ⟨blk,off,none⟩) len cap)/\i<xs.length /\
  v=.pointer (some ⟨blk,off+i*e+j,none⟩)
 |.vw (.own r p) e xs,v=>B1 S r/\(∃S',(∀b,S' b->g.fp r b)/\Own w (.sl e xs) v S')/\AtC S g w r p e xs v|.vp (.own r _) cs,v=>B1 S r/\AGo w (g.fp r) cs v|.fn f caps,v=>∃n cv,v=.func (.func n) #[] cv/\Mt F.A F.P n f/\cv.size=caps.length/\∀(i:Nat) (l:AS) (c:Value),caps[i]?=some l->cv[i]?=some c->Ef F g w l c|l,v=>Ef F g w l v
structure Inv(F:Fix)(S:St)(g:Gh)(a:Act)(w:World):Prop where
 Cg:∀r l,S.at r=some l->∃v,g.rv r=some v/\Bc F S g w (g.fp r) l v
 tms:∀s e,get S.tm s=some e->s<F.N/\a.tmps.getD s undef=mkV e.sh (g.tv s)/\(g.tv s).length=e.cs.length
 bxs:∀id ls,get S.bx id=some ls->(∃E,w.heap[g.β id]?=some (.cells (g.bv id).toArray E (0,0)))/\(g.bv id).length=ls.length
 dis:∀r r',B1 S r->B1 S r'->r≠r'->∀b,g.fp r b->¬g.fp r' b
 E7:∀r id,B1 S r->(get S.bx id).isSome->¬g.fp r (g.β id)
 Gu:∀r,B1 S r->∀b,g.fp r b->¬F.K b
 GA:∀id id',(get S.bx id).isSome->(get S.bx id').isSome->g.β id=g.β id'->id=id'
 bxR:∀id,(get S.bx id).isSome->¬F.K (g.β id)
 E4:∀b,F.K b->w.heap[b]?=F.w0.heap[b]?
 rlt:∀b,F.K b->b<F.w0.heap.size
 still:Still F.w0 w
 defs:a.defers=[]
 tsz:a.tmps.size=F.N
 pin:∀p∈S.pin,a.tmps.getD p undef=F.pv p/\((get S.bx p).isSome->g.β p=F.β0 p)
theorem Inv.size{F:Fix}{S:St}{g:Gh}{a:Act}{w:World}(h:Inv F S g a w):F.w0.heap.size<=w.heap.size:=h.still.size
section tools
variable{F:Fix}{S S':St}{g g':Gh}{a:Act}{w w':World}
theorem View.same{B:Blk}{x:T}{v:Value}(h:View w B x v)(c:∀b,B b->w'.heap[b]?=w.heap[b]?):View w' B x v:=h.mono (fun _ h=>h) c
theorem LF{b o:Nat}(h:w'.heap[b]?=w.heap[b]?):w'.cell? ⟨b,o,none⟩=w.cell? ⟨b,o,none⟩:=by simp[World.cell?,h]
theorem UU.same{B:Blk}{cs:List T}{v:Value}(h:UU w B cs v)(q:∀b,B b->w'.heap[b]?=w.heap[b]?):UU w' B cs v:=by
 obtain⟨a,c,y,E,G⟩:=h;refine⟨a,c,y,E,fun j x J=>?_⟩;obtain⟨e,H,I⟩:=G j x J;exact⟨e,by rw[LF (q _ e),H],I.same q⟩
theorem AGo.same{B B':Blk}{cs:List T}{v:Value}(h:AGo w B cs v)(hB:∀b,B b->B' b)(E:∀b,B b->w'.heap[b]?=w.heap[b]?):AGo w' B' cs v:=by
 obtain⟨a,c,f,G,H,I⟩:=h;refine⟨a,c,f,G,H,fun j x O=>?_⟩;obtain⟨q,J,y,L⟩:=I j x O;exact⟨hB _ q,by rw[LF (E _ q),J],fun b e=>hB b (y b e),L.frame fun b e=>E b (y b e)⟩
theorem Ef.tr{l:AS}{v:Value}(h:Ef F g w l v)(c:∀id off,l=.bp id off->g'.β id=g.β id)(hR:∀b,F.K b->w'.heap[b]?=w.heap[b]?) :
 Ef F g' w' l v:=by
 unfold Ef at h ⊢;split at h<;>simp_all
 .exact h.same fun b c=>hR b (F.RK _ b c)
 .exact h.same fun b c=>hR b (F.RK _ b c)
theorem Bc.tr{fp:Blk}{l:AS}{v:Value}(h:Bc F S g w fp l v)
 (O:∀r,l.Bm=some r->S'.at r=S.at r/\g'.rv r=g.rv r/\(∀b,g.fp r b->g'.fp r b)/\∀b,g.fp r b->w'.heap[b]?=w.heap[b]?)
 (I:∀id∈names l,g'.β id=g.β id) (hF:∀b,fp b->w'.heap[b]?=w.heap[b]?) (hR:∀b,F.K b->w'.heap[b]?=w.heap[b]?):Bc F S' g' w' fp l v:=by
 match l,h with
 |.ow x,h=>exact Own.frame h hF|.al r sub,⟨x,u,y,E,G⟩=>
  obtain⟨B,H,_,_⟩:=O r rfl;exact⟨x,u,B.trans y,H.trans E,G⟩
 |.ep r i j,⟨e,xs,blk,off,len,cap,y,E,G,X⟩=>
  obtain⟨B,H,_,_⟩:=O r rfl;exact⟨e,xs,blk,off,len,cap,B.trans y,H.trans E,G,X⟩
 |.vw (.own r p) e xs,⟨⟨x,Q⟩,⟨S0,y,E⟩,G⟩=>
  obtain⟨B,H,J,L⟩:=O r rfl;refine⟨⟨x,B.trans Q⟩,⟨S0,fun b I=>J b (y b I),E.frame fun b I=>L b (y b I)⟩,?_⟩;cases p with
  |none=>trivial|some q=>
   obtain⟨i,j⟩:=q;obtain⟨e0,rows,blk,off,len,cap,k1,k2,k3,Z,k5⟩:=G;exact⟨e0,rows,blk,off,len,cap,B.trans k1,H.trans k2,k3,J _ Z,(LF (L _ Z)).trans k5⟩
 |.vp (.own r _) cs,⟨⟨x,Q⟩,y⟩=>
  obtain⟨B,H,J,L⟩:=O r rfl;exact⟨⟨x,B.trans Q⟩,y.same J L⟩
 |.fn f caps,⟨n,cv,y,E,G,X⟩=>
  refine⟨n,cv,y,E,G,fun i l c Y hc=>(X i l c Y hc).tr ?_ hR⟩;rintro id off rfl;refine I id ?_;simp only[names,List.mem_filterMap];exact⟨_,Ai Y,rfl⟩
 |.t x,h=>exact Ef.tr (g:=g) (g':=g') (l:=.t x) h (by simp) hR|.und,h=>exact Ef.tr (g:=g) (g':=g') (l:=.und) h (by simp) hR|.vw (.old k) e xs,h=>exact Ef.tr (g:=g) (g':=g') (l:=.vw (.old k) e xs) h (by simp) hR|.vp (.old k) cs,h=>exact Ef.tr (g:=g) (g':=g') (l:=.vp (.old k) cs) h (by simp) hR|.bp id off,h=>exact Ef.tr (g:=g) (g':=g') (l:=.bp id off) h (by rintro _ _ ⟨⟩;exact I id (by simp[names])) hR
theorem Bc.top{fp:Blk}{v:Value}:Bc F S g w fp (.t .top) v:=trivial
theorem Bc.alive{fp:Blk}{l:AS}{v:Value}(h:Bc F S g w fp l v){r:B0}(c:l.Bm=some r):B1 S r:=by
 match l,h with
 |.al B sub,⟨x,u,y,E,G⟩=>cases c;exact⟨x,y⟩
 |.ep B i j,⟨e,xs,blk,off,len,cap,y,E,G,H⟩=>cases c;exact⟨_,y⟩
 |.vw (.own B _) e xs,⟨q,_⟩=>cases c;exact q
 |.vp (.own B _) cs,⟨q,_⟩=>cases c;exact q
end tools
end Lv
namespace Lv
open Go
section lists
variable{α:Type}
theorem FB(l:List (Nat×α))(s k:Nat)(a:α):get (put l s a) k=if k=s then some a else get l k:=by
 induction l with
 |nil=>
  grind[put,get]
 |cons p r c=>
  grind[put,get]
theorem Eb(q:AS->Bool)(l:List (Nat×Ent))(s:Nat):get (LA q l) s=(get l s).map fun e=>⟨e.sh,Dx q e.cs⟩:=by
 induction l with
 |nil=>rfl|cons p r c=>obtain⟨k,e⟩:=p;simp only[LA,get,c];split<;>rfl
theorem C1(q:AS->Bool)(l:List (Nat×List AS))(s:Nat):get (K9 q l) s=(get l s).map (Dx q):=by
 induction l with
 |nil=>rfl|cons p r c=>obtain⟨k,e⟩:=p;simp only[K9,get,c];split<;>rfl
theorem Gg(ks:List Nat)(l:List (Nat×α))(s:Nat):get (Fx ks l) s=if s∈ks then get l s else none:=by
 induction l with
 |nil=>simp[Fx,get]|cons p r c=>
  grind[Fx,get]
theorem LM(ks:List Nat)(l:List (Nat×α))(s:Nat):get (JR ks l) s=if s∈ks then none else get l s:=by
 induction l with
 |nil=>simp[JR,get]|cons p r c=>
  grind[JR,get]
theorem Fk(q:AS->Bool)(ls:List AS)(c:Nat):(Dx q ls)[c]?=(ls[c]?).map fun l=>if q l then .t .top else l:=by
 induction ls generalizing c with
 |nil=>simp[Dx]|cons l ls e=>cases c<;>simp[Dx,e]
theorem Ec(q:AS->Bool)(ls:List AS):(Dx q ls).length=ls.length:=by
 induction ls with
 |nil=>rfl|cons l ls c=>simp[Dx,c]
end lists
theorem zf{l:AS}{b c:Nat}(h:l.Bm=some (.cell b c)):l.Ll=some b:=by
 match l,h with
 |.al _ _,h=>cases h;rfl
 |.ep _ _ _,h=>cases h;rfl
 |.vw (.own _ _) _ _,h=>cases h;rfl
 |.vp (.own _ _) _,h=>cases h;rfl
section at_
variable{S:St}
theorem HV(q:AS->Bool)(r:B0):(S.kill q).at r=(S.at r).map fun l=>if q l then .t .top else l:=by
 cases r with
 |tmp s c=>
  grind[St.at,St.kill,Eb,get,Fk]
 |cell b c=>
  grind[St.at,St.kill,C1,get,Fk]
theorem Fp{r:B0}{J:AS}(h:S.at r=some J)(l:AS)(B:B0):(S.Be r l).at B=if B=r then some l else S.at B:=by
 cases r with
 |tmp s c=>
  simp only[St.at,St.Be]at h ⊢;cases j:get S.tm s with
  |none=>simp[j]at h|some e=>
   simp only[j]at h ⊢;cases B with
   |tmp G q=>
    simp only[FB];by_cases y:G=s
    .subst y;simp only[if_true,j];have E:=(AO.1 h).1;rw[DZ];by_cases I:c=q<;>simp_all[eq_comm]
    .simp[y]
   |cell b q=>simp
 |cell b c=>
  simp only[St.at,St.Be]at h ⊢;cases j:get S.bx b with
  |none=>simp[j]at h|some e=>
   simp only[j]at h ⊢;cases B with
   |tmp G q=>simp|cell H q=>
    simp only[FB];by_cases y:H=b
    .subst y;simp only[if_true,j];have E:=(AO.1 h).1;rw[DZ];by_cases I:c=q<;>simp_all[eq_comm]
    .simp[y]
theorem OG{r:B0}{l:AS}{s:Nat}{j:Ent}(h:get (S.Be r l).tm s=some j):∃e,get S.tm s=some e/\j.sh=e.sh/\j.cs.length=e.cs.length:=by
 cases r with
 |tmp q c=>
  grind[St.Be,FB]
 |cell b c=>
  grind[St.Be]
theorem Jm{r:B0}{l:AS}{s:Nat}{ls':List AS}(h:get (S.Be r l).bx s=some ls'):∃ls,get S.bx s=some ls/\ls'.length=ls.length:=by
 cases r with
 |tmp e c=>
  grind[St.Be]
 |cell b c=>
  grind[St.Be,FB]
theorem HP{r:B0}{l:AS}:(S.Be r l).pin=S.pin:=by
 cases r<;>simp only[St.Be]<;>split<;>rfl
theorem DX{r:B0}{l:AS}{s:Nat}:(get (S.Be r l).bx s).isSome=(get S.bx s).isSome:=by
 cases r with
 |tmp e c=>simp only[St.Be];split<;>rfl|cell b c=>
  grind[St.Be,FB]
end at_
section moves
variable{F:Fix}{S S':St}{g g':Gh}{a a':Act}{w w':World}
theorem Inv.weaken(h:Inv F S g a w)(B:∀s Q,get S'.tm s=some Q->∃e,get S.tm s=some e/\Q.sh=e.sh/\Q.cs.length=e.cs.length)
 (X:∀id ls',get S'.bx id=some ls'->∃ls,get S.bx id=some ls/\ls'.length=ls.length)
 (h3:∀r l',S'.at r=some l'->l'=.t .top/\(S.at r).isSome\/(S.at r=some l'/\∀O x,l'.Bm=some O->S.at O=some (.ow x)->S'.at O=some (.ow x)))
 (h4:S'.pin=S.pin):Inv F S' g a w:=by
 have j:∀r,B1 S' r->B1 S r:=by
  rintro r ⟨x,Y⟩;rcases h3 r _ Y with ⟨h,_⟩|⟨h,_⟩
  .cases h
  .exact⟨x,h⟩
 have c:∀id,(get S'.bx id).isSome->(get S.bx id).isSome:=by
  intro id q;obtain⟨ls',hls⟩:=BV.1 q;obtain⟨ls,h,_⟩:=X _ _ hls;simp[h]
 refine { Cg:=?_,tms:=?_,bxs:=?_,dis:=?_,E7:=?_,Gu:=?_,GA:=?_,bxR:=?_,E4:=h.E4,rlt:=h.rlt,still:=h.still,defs:=h.defs,tsz:=h.tsz,pin:=?_}
 .intro r l' H;rcases h3 r l' H with ⟨rfl,L⟩|⟨L,y⟩
  .obtain⟨l,H⟩:=BV.1 L;obtain⟨v,hv,_⟩:=h.Cg _ _ H;exact⟨v,hv,Bc.top⟩
  .obtain⟨v,hv,I⟩:=h.Cg _ _ L;refine⟨v,hv,I.tr ?_ (fun _ _=>rfl) (fun _ _=>rfl) fun _ _=>rfl⟩;intro O J;obtain⟨x,Y⟩:=I.alive J;exact⟨(y O x J Y).trans Y.symm,rfl,fun _ h=>h,fun _ _=>rfl⟩
 .intro s Q he;obtain⟨e,Z,he2,he3⟩:=B _ _ he;obtain⟨E,G,h7⟩:=h.tms _ _ Z;exact⟨E,he2▸G,h7.trans he3.symm⟩
 .intro id ls' H;obtain⟨ls,hl1,hl2⟩:=X _ _ H;obtain⟨E,G⟩:=h.bxs _ _ hl1;exact⟨E,G.trans hl2.symm⟩
 .exact fun r r' y hr' hne=>h.dis r r' (j _ y) (j _ hr') hne
 .exact fun r id y q=>h.E7 r id (j _ y) (c _ q)
 .exact fun r y=>h.Gu r (j _ y)
 .exact fun id id' B X=>h.GA id id' (c _ B) (c _ X)
 .exact fun id B=>h.bxR id (c _ B)
 .intro p hp;obtain⟨E,G⟩:=h.pin p (h4▸hp);exact⟨E,fun L=>G (c _ L)⟩
theorem Inv.kill(h:Inv F S g a w)(q:AS->Bool)(c:∀x,q (.ow x)=false):Inv F (S.kill q) g a w:=by
 refine h.weaken ?_ ?_ ?_ rfl
 .grind[St.kill,Eb,Option.map_eq_some_iff,Ec]
 .grind[St.kill,C1,Option.map_eq_some_iff,Ec]
 grind[HV,Option.map_eq_some_iff]
theorem Inv.out(h:Inv F S g a w){r:B0}{x:T}(j:S.at r=some (.ow x)):Inv F (S.out r) g a w:=by
 have e:∀c,(S.out r).at c=(if c=r then some (.t .top) else S.at c).map fun l=>if Me r l then .t .top else l:=by
  intro c;rw[St.out,HV,Fp j]
 refine h.weaken ?_ ?_ ?_ ?_
 .grind[St.out,St.kill,Eb,Option.map_eq_some_iff,OG,Ec]
 .grind[St.out,St.kill,C1,Option.map_eq_some_iff,Jm,Ec]
 .grind[Option.map_eq_some_iff,Me,AS.Bm]
 .rw[St.out];exact HP
theorem Iy{r j:B0}{x:T}(B:S.at r=some (.ow x)):B1 (S.out r) j->j≠r/\B1 S j:=by
 rintro⟨y,q⟩;rw[St.out,HV,Fp B,AK]at q;obtain⟨l,e,c⟩:=q;split at c
 .cases c
 .subst c;split at e
  .cases e
  .rename_i h;exact⟨h,y,e⟩
theorem Inv.clean(h:Inv F S g a w)(ks:List Nat):Inv F (S.clean ks) g a w:=by
 have J:∀r l',(S.clean ks).at r=some l'->∃l,S.at r=some l/\l'=(if II ks l then .t .top else l)/\(match r with|.tmp s _=>s∈ks|.cell b _=>b∈ks):=by
  grind[St.at,St.clean,Eb,Gg,get,Fk,Option.map_eq_some_iff,C1]
 have y:∀r x,S.at r=some (.ow x)->(match r with|.tmp s _=>s∈ks|.cell b _=>b∈ks)->(S.clean ks).at r=some (.ow x):=by
  intro r x q I;cases r with
  |tmp s c=>
   simp only[St.at,St.clean,Eb,Gg]at q I ⊢;simp only[I,if_true];cases B:get S.tm s with
   |none=>simp[B]at q|some e=>simp only[B]at q;simp[Fk,q,II,LR,AS.Bm,AS.Ll]
  |cell b c=>
   simp only[St.at,St.clean,C1,Gg]at q I ⊢;simp only[I,if_true];cases B:get S.bx b with
   |none=>simp[B]at q|some e=>simp only[B]at q;simp[Fk,q,II,LR,AS.Bm,AS.Ll]
 refine h.weaken ?_ ?_ ?_ rfl
 .intro s Q j;simp only[St.clean,Eb,Gg,AK]at j;obtain⟨e,j,rfl⟩:=j;split at j
  .exact⟨e,j,rfl,Ec _ _⟩
  .cases j
 .intro id ls' G;simp only[St.clean,C1,Gg,AK]at G;obtain⟨e,j,rfl⟩:=G;split at j
  .exact⟨e,j,Ec _ _⟩
  .cases j
 .intro r l' G;obtain⟨l,L,rfl,X⟩:=J r l' G;split
  .exact .inl ⟨rfl,by simp[L]⟩
  .rename_i H;refine .inr ⟨L,fun O x E q=>y O x q ?_⟩;cases O with
   |tmp s c=>
    simp only[II,E,CT,not_or,decide_eq_true_eq,Decidable.not_not]at H;exact H.1
   |cell b c=>
    have Y:l.Ll=some b:=zf E;have:LR ks l=false:=by
     simp only[II,CT,not_or]at H;simpa using H.2
    cases l<;>simp_all[LR,AS.Bm]
end moves
end Lv
namespace Lv
open Go
section
variable{F:Fix}{S S':St}{g g':Gh}{a a':Act}{w w':World}
def RS(F:Fix)(S:St)(g:Gh)(cs:List AS)(nf:Nat->Blk):Prop:=
 ∀c x,cs[c]?=some (.ow x)->(∀b,nf c b->¬F.K b)/\(∀r,B1 S r->∀b,nf c b->¬g.fp r b)/\(∀id,(get S.bx id).isSome->¬nf c (g.β id)) /\
  ∀c' x',cs[c']?=some (.ow x')->c≠c'->∀b,nf c b->¬nf c' b
def Cells(F:Fix)(S:St)(g:Gh)(w:World)(cs:List AS)(vs:List Value)(nf:Nat->Blk):Prop:=
 vs.length=cs.length/\(∀c l,cs[c]?=some l->∃v,vs[c]?=some v/\Bc F S g w (nf c) l v)/\RS F S g cs nf
theorem AAj{d:Nat}{e:Ent}(r:B0):({ S with tm:=put S.tm d e}:St).at r=match r with|.tmp s c=>if s=d then e.cs[c]? else S.at (.tmp s c)|.cell b c=>S.at (.cell b c):=by
 grind[St.at,FB]
def Gh.LX(g:Gh)(d:Nat)(vs:List Value)(nf:Nat->Blk):Gh:=
 { g with tv:=fun s=>if s=d then vs else g.tv s,fp:=fun r=>match r with|.tmp s c=>if s=d then nf c else g.fp (.tmp s c)|.cell b c=>g.fp (.cell b c)}
theorem zF{d:Nat}{l:AS}(h:EO d l=false){r:B0}(e:l.Bm=some r):∀c,r≠.tmp d c:=by
 rintro c rfl;simp[EO,e]at h
theorem Inv.put(h:Inv F S g a w){d:Nat}{e:Ent}{vs:List Value}{nf:Nat->Blk}(hd:d<F.N)(hp:d∉S.pin)
 (hfree:∀r l,S.at r=some l->(∀c,r≠.tmp d c)->EO d l=false) (hfe:∀l∈e.cs,EO d l=false) (hc:Cells F S g w e.cs vs nf) :
 Inv F { S with tm:=put S.tm d e} (g.LX d vs nf) (a.put (some d) (mkV e.sh vs)) w:=by
 obtain⟨hlen,hl,G⟩:=hc;have hrv:∀r,(∀c,r≠.tmp d c)->(g.LX d vs nf).rv r=g.rv r:=by
  intro r j;cases r with
  |tmp s c=>
   have:s≠d:=by rintro rfl;exact j c rfl
   simp[Gh.rv,Gh.LX,this]
  |cell b c=>rfl
 have H:∀r,(∀c,r≠.tmp d c)->(g.LX d vs nf).fp r=g.fp r:=by
  intro r j;cases r with
  |tmp s c=>
   have:s≠d:=by rintro rfl;exact j c rfl
   simp[Gh.LX,this]
  |cell b c=>rfl
 have hat:∀r,(∀c,r≠.tmp d c)->({ S with tm:=Lv.put S.tm d e}:St).at r=S.at r:=by
  intro r j;rw[AAj];cases r with
  |tmp s c=>
   have:s≠d:=by rintro rfl;exact j c rfl
   simp[this]
  |cell b c=>rfl
 have tr:∀{fp:Blk} {l:AS} {v:Value},EO d l=false->Bc F S g w fp l v->Bc F { S with tm:=Lv.put S.tm d e} (g.LX d vs nf) w fp l v:=by
  intro fp l v hn Q;refine Q.tr ?_ (fun _ _=>rfl) (fun _ _=>rfl) fun _ _=>rfl
  intro r j;have E:=zF hn j;exact⟨hat r E,hrv r E,fun b q=>(H r E).symm▸q,fun _ _=>rfl⟩
 have tmpd:∀r:B0,(∃c,r=B0.tmp d c)\/∀c,r≠B0.tmp d c:=by
  intro r;by_cases L:∃c,r=.tmp d c
  .exact .inl L
  .exact .inr fun c hc=>L ⟨c,hc⟩
 have y:∀c,B1 { S with tm:=Lv.put S.tm d e} (.tmp d c)->∃x,e.cs[c]?=some (.ow x):=by
  rintro c ⟨x,L⟩;rw[AAj]at L;exact⟨x,by simpa using L⟩
 have O:∀r,(∀c,r≠.tmp d c)->B1 { S with tm:=Lv.put S.tm d e} r->B1 S r:=by
  rintro r j ⟨x,L⟩;exact⟨x,(hat r j)▸L⟩
 have fpd:∀c,(g.LX d vs nf).fp (.tmp d c)=nf c:=fun c=>by simp[Gh.LX]
 refine { Cg:=?_,tms:=?_,bxs:=h.bxs,dis:=?_,E7:=?_,Gu:=?_,GA:=h.GA,bxR:=h.bxR,E4:=h.E4,rlt:=h.rlt,still:=h.still,defs:=h.defs,tsz:=?_,pin:=?_}
 .intro r l I;rcases tmpd r with ⟨c,rfl⟩|j
  .rw[AAj]at I;simp only[if_true]at I;obtain⟨v,hv,Q⟩:=hl c l I;refine⟨v,by simpa[Gh.rv,Gh.LX] using hv,?_⟩;rw[fpd];exact tr (hfe l (Ai I)) Q
  .rw[hat r j]at I;obtain⟨v,hv,Q⟩:=h.Cg r l I;refine⟨v,(hrv r j).trans hv,?_⟩;rw[H r j];exact tr (hfree r l I j) Q
 .intro s e' he;simp only[FB]at he;by_cases hs:s=d
  .subst hs;simp only[if_true,AD]at he;subst he;refine⟨hd,?_,by simpa[Gh.LX] using hlen⟩;simp[Act.put,Array.getD,Gh.LX,h.tsz,hd]
  .simp only[if_neg hs]at he;obtain⟨J,X,h3⟩:=h.tms s e' he;refine⟨J,?_,by simpa[Gh.LX,hs] using h3⟩;have:({ a with tmps:=a.tmps.setIfInBounds d (mkV e.sh vs)}:Act).tmps.getD s undef=a.tmps.getD s undef:=by
    simp[EA,Ne.symm hs]
   simpa[Act.put,Gh.LX,hs] using this.trans X
 .intro r Z j Y E b q B;rcases tmpd r with ⟨c,rfl⟩|J
  .obtain⟨x,L⟩:=y c j;rw[fpd]at q;rcases tmpd Z with ⟨c',rfl⟩|X
   .obtain⟨x',hx'⟩:=y c' Y;rw[fpd]at B;exact(G c x L).2.2.2 c' x' hx' (by rintro rfl;exact E rfl) b q B
   .rw[H Z X]at B;exact(G c x L).2.1 Z (O Z X Y) b q B
  .rw[H r J]at q;rcases tmpd Z with ⟨c',rfl⟩|X
   .obtain⟨x',hx'⟩:=y c' Y;rw[fpd]at B;exact(G c' x' hx').2.1 r (O r J j) b B q
   .rw[H Z X]at B;exact h.dis r Z (O r J j) (O Z X Y) E b q B
 .intro r id j hid q;rcases tmpd r with ⟨c,rfl⟩|J
  .obtain⟨x,L⟩:=y c j;rw[fpd]at q;exact(G c x L).2.2.1 id hid q
  .rw[H r J]at q;exact h.E7 r id (O r J j) hid q
 .intro r j b q;rcases tmpd r with ⟨c,rfl⟩|J
  .obtain⟨x,L⟩:=y c j;rw[fpd]at q;exact(G c x L).1 b q
  .rw[H r J]at q;exact h.Gu r (O r J j) b q
 .simp[Act.put,h.tsz]
 .intro p hpp;obtain⟨J,X⟩:=h.pin p hpp;have E:d≠p:=by rintro rfl;exact hp hpp
  refine⟨?_,X⟩;simp only[Act.put,EA,Array.getElem?_setIfInBounds,if_neg E];rw[EA]at J;exact J
theorem Cells.kill{cs:List AS}{vs:List Value}{nf:Nat->Blk}(h:Cells F S g w cs vs nf)(q:AS->Bool)(X:∀x,q (.ow x)=false) :
 Cells F (S.kill q) g w (Dx q cs) vs nf:=by
 obtain⟨I,J,L⟩:=h;have O:∀r,B1 (S.kill q) r->B1 S r:=by
  rintro r ⟨x,j⟩;rw[HV,AK]at j;obtain⟨l,y,e⟩:=j;split at e
  .cases e
  .exact⟨x,e▸y⟩
 have B:∀r x,S.at r=some (.ow x)->(S.kill q).at r=some (.ow x):=by
  intro r x j;rw[HV,j];simp[X]
 have Q:∀id,(get (S.kill q).bx id).isSome->(get S.bx id).isSome:=by
  intro id;simp[St.kill,C1]
 have H:∀(c:Nat) (x:T),(Dx q cs)[c]?=some (AS.ow x)->cs[c]?=some (AS.ow x):=by
  intro c x j;rw[Fk,AK]at j;obtain⟨l,y,e⟩:=j;split at e
  .cases e
  .exact e▸y
 refine⟨I.trans (Ec _ _).symm,?_,?_⟩
 .intro c l y;rw[Fk,AK]at y;obtain⟨l0,G,rfl⟩:=y;obtain⟨v,Z,E⟩:=J c l0 G;refine⟨v,Z,?_⟩;split
  .exact Bc.top
  .refine E.tr ?_ (fun _ _=>rfl) (fun _ _=>rfl) fun _ _=>rfl
   intro r Y;obtain⟨x,j⟩:=E.alive Y;exact⟨(B r x j).trans j.symm,rfl,fun _ h=>h,fun _ _=>rfl⟩
 .intro c x j;obtain⟨h4,h5,h6,h7⟩:=L c x (H c x j)
  grind
theorem Inv.Dg(h:Inv F S g a w){d:Nat}{e:Ent}{vs:List Value}{nf:Nat->Blk}(j:S.Dg d e=some S')(O:d<F.N)(I:Cells F S g w e.cs vs nf) :
 ∃g',Inv F S' g' (a.put (some d) (mkV e.sh vs)) w:=by
 unfold St.Dg at j;split at j
 .cases j
 .rename_i Q;split at j
  .rename_i Z;cases j;have E:∀{l:AS} {fp:Blk} {v:Value},Bc F S g w fp l v->EO d l=false:=by
    intro l fp v q;cases H:l.Bm with
    |none=>simp[EO,H]|some r=>
     obtain⟨x,hx⟩:=q.alive H;cases r with
     |tmp s c=>
      have:s≠d:=by rintro rfl;simp[St.at,Z]at hx
      simp[EO,H,this]
     |cell b c=>simp[EO,H]
   refine⟨_,h.put O Q ?_ ?_ I⟩
   .intro r l B _;obtain⟨v,_,q⟩:=h.Cg r l B;exact E q
   .intro l J;obtain⟨c,y⟩:=BT J;obtain⟨v,_,q⟩:=I.2.1 c l y;exact E q
  .cases j;have X:∀x,EO d (.ow x)=false:=fun x=>rfl
   have Y:=I.kill (EO d) X;have G:∀l,EO d (if EO d l then .t .top else l)=false:=by
    intro l;split
    .rfl
    .simp_all
   refine⟨_,(h.kill (EO d) X).put (e:=⟨e.sh,Dx (EO d) e.cs⟩) O Q ?_ ?_ Y⟩
   .intro r l B _;rw[HV,AK]at B;obtain⟨L,_,rfl⟩:=B;exact G L
   .intro l J;obtain⟨c,y⟩:=BT J;rw[Fk,AK]at y;obtain⟨L,_,rfl⟩:=y;exact G L
theorem Bc.any{fp fp':Blk}{l:AS}{v:Value}(c:∀x,l≠.ow x)(h:Bc F S g w fp l v):Bc F S g w fp' l v:=by
 match l,h with
 |.ow x,h=>exact(c x rfl).elim|.al _ _,h=>exact h|.ep _ _ _,h=>exact h|.vw (.own _ _) _ _,h=>exact h|.vw (.old _) _ _,h=>exact h|.vp (.own _ _) _,h=>exact h|.vp (.old _) _,h=>exact h|.fn _ _,h=>exact h|.t _,h=>exact h|.und,h=>exact h|.bp _ _,h=>exact h
theorem Cells.free{cs:List AS}{vs:List Value}(e:vs.length=cs.length)(h:∀(c:Nat) (l:AS),cs[c]?=some l->∃v,vs[c]?=some v/\Bc F S g w (fun _=>False) l v)
 (j:∀x,AS.ow x∉cs):Cells F S g w cs vs fun _ _=>False:=
 ⟨e,h,fun _ x q=>(j x (Ai q)).elim⟩
theorem Inv.grow(h:Inv F S g a w)(O:Still w w')(G:∀b,b<w.heap.size->w'.heap[b]?=w.heap[b]?):Inv F S g a w':=by
 have hR:∀b,F.K b->w'.heap[b]?=w.heap[b]?:=fun b e=>G b (BF (h.rlt b e) h.size)
 have j:∀r,B1 S r->∀b,g.fp r b->w'.heap[b]?=w.heap[b]?:=by
  rintro r ⟨x,H⟩ b e;obtain⟨v,_,c⟩:=h.Cg r _ H;exact G b (Own.lt c b e)
 refine { Cg:=?_,tms:=h.tms,bxs:=?_,dis:=h.dis,E7:=h.E7,Gu:=h.Gu,GA:=h.GA,bxR:=h.bxR,E4:=?_,rlt:=h.rlt,still:=h.still.trans O,defs:=h.defs,tsz:=h.tsz,pin:=h.pin}
 .intro r l y;obtain⟨v,J,c⟩:=h.Cg r l y;by_cases q:∃x,l=.ow x
  .obtain⟨x,rfl⟩:=q;exact⟨v,J,Own.frame c (j r ⟨x,y⟩)⟩
  .have I:∀x,l≠.ow x:=fun x H=>q ⟨x,H⟩
   exact⟨v,J,Bc.any I ((Bc.any (fp':=fun _=>False) I c).tr (S':=S) (g':=g) (w':=w') (fun Q B=>⟨rfl,rfl,fun _ h=>h,j Q (c.alive B)⟩) (fun _ _=>rfl) (fun _ h=>h.elim) hR)⟩
 .intro id ls y;obtain⟨⟨E,hE⟩,L⟩:=h.bxs id ls y;exact⟨⟨E,(G _ (Av.1 hE).1).trans hE⟩,L⟩
 .intro b e;exact(hR b e).trans (h.E4 b e)
theorem Inv.drawn(h:Inv F S g a w)(n:Nat):Inv F S g a { w with drawn:=n}:=h.grow (Still.drawn n) fun _ _=>rfl
end
section
variable{F:Fix}{S S':St}{g g':Gh}{a a':Act}{w w':World}
theorem Q5{x:T}{u v:Value}{fp:Blk}{sub:Option (Nat×Nat)}(h:Own w x u fp)(j:AQP x sub u v):∃S0:Blk,(∀b,S0 b->fp b)/\Own w (kL sub x) v S0:=by
 cases sub with
 |none=>
  simp only[AQP]at j;subst j;exact⟨fp,fun _ h=>h,by cases x<;>exact h⟩
 |some p=>
  obtain⟨lo,n⟩:=p;cases x with
  |sl e xs=>
   simp only[AQP]at j;obtain⟨blk,off,len,cap,off',cap',rfl,rfl,q,y,E,G⟩|⟨rfl,rfl,rfl,rfl,rfl⟩:=j
   case inr=>exact⟨fp,fun _ h=>h,by simpa[kL,JM] using h⟩
   have B:len=xs.length/\len<=cap:=by
    cases h with
    |sc h _ _=>exact h.elim|sl c f q y=>exact⟨q,y⟩
   exact h.sub (lo:=lo) (n:=n) (by omega) (by omega) (by omega) E G
  |top=>obtain⟨rfl,_⟩:=j;exact⟨fp,fun _ h=>h,h⟩
  |int k n=>obtain⟨rfl,_⟩:=j;exact⟨fp,fun _ h=>h,h⟩
  |bool b=>obtain⟨rfl,_⟩:=j;exact⟨fp,fun _ h=>h,h⟩
  |str s=>obtain⟨rfl,_⟩:=j;exact⟨fp,fun _ h=>h,h⟩
  |nil=>obtain⟨rfl,_⟩:=j;exact⟨fp,fun _ h=>h,h⟩
  |np=>obtain⟨rfl,_⟩:=j;exact⟨fp,fun _ h=>h,h⟩
  |un=>obtain⟨rfl,_⟩:=j;exact⟨fp,fun _ h=>h,h⟩
  |mp ks=>obtain⟨rfl,_⟩:=j;exact⟨fp,fun _ h=>h,h⟩
theorem ACm{r:B0}{x:T}(h:S.at r=some (.ow x)){e:B0}{y:T}(c:e≠r)(j:S.at e=some (.ow y)):(S.out r).at e=some (.ow y):=by
 rw[St.out,HV,Fp h,if_neg c,j];simp[Me,AS.Bm]
theorem Ym{r:B0}{id:Nat}:(get (S.out r).bx id).isSome->(get S.bx id).isSome:=by
 grind[St.out,St.kill,C1,Option.isSome_map,DX]
theorem sQ{r:B0}:(S.out r).pin=S.pin:=by rw[St.out];exact HP
theorem Bc.out{fp:Blk}{l:AS}{v:Value}(h:Bc F S g w fp l v){r:B0}{x:T}(j:S.at r=some (.ow x))(e:l.Bm≠some r):Bc F (S.out r) g w fp l v:=by
 refine h.tr ?_ (fun _ _=>rfl) (fun _ _=>rfl) fun _ _=>rfl
 intro B c;obtain⟨y,q⟩:=h.alive c
 grind[ACm]
structure RT(F:Fix)(S S':St)(g:Gh)(a:Act)(w:World):Prop where
 inv:Inv F S' g a w
 same:∀r x,S'.at r=some (.ow x)->S.at r=some (.ow x)
 bx:∀id,(get S'.bx id).isSome->(get S.bx id).isSome
 pin:S'.pin=S.pin
theorem RT.al(h:RT F S S' g a w):∀r,B1 S' r->B1 S r:=fun r ⟨x,c⟩=>⟨x,h.same r x c⟩
theorem ib{r c:B0}{x y:T}(e:S.at r=some (.ow x))(h:(S.out r).at c=some (.ow y)):S.at c=some (.ow y):=by
 grind[St.out,HV,Fp,Option.map_eq_some_iff]
theorem AP3{ls ls':List AS}{vs:List Value}(h:Inv F S g a w)(hn:∀x,AS.ow x∉ls)(E:vs.length=ls.length)
 (hok:∀(c:Nat) (l:AS),ls[c]?=some l->∃v,vs[c]?=some v/\Bc F S g w (fun _=>False) l v) (htk:OF ls=true) (J:Ja S ls=some (S',ls')) :
 RT F S S' g a w/\(∀fp l v,Bc F S g w fp l v->(∀r sub,AS.al r sub∈ls->l.Bm≠some r)->Bc F S' g w fp l v) /\
 ∃nf:Nat->Blk,Cells F S' g w ls' vs nf/\∀c x,ls'[c]?=some (.ow x)->∃r,B1 S r/\∀b,nf c b->g.fp r b:=by
 induction ls generalizing S S' ls' vs with
 |nil=>
  simp only[Ja,AD,Au]at J;obtain⟨rfl,rfl⟩:=J;refine⟨⟨h,fun _ _ h=>h,fun _ h=>h,rfl⟩,fun _ _ _ h _=>h,fun _ _=>False,⟨E,?_,?_⟩,?_⟩
  .intro c l hl;simp at hl
  .intro c x q;simp at q
  .intro c x q;simp at q
 |cons l ls ih=>
  obtain⟨v,vs,rfl⟩:∃v vs',vs=v::vs':=by cases vs with|nil=>simp at E|cons v vs=>exact⟨v,vs,rfl⟩
  simp only[AI,Gn]at E;simp only[OF,AF,List.all_eq_true,Bool.not_eq_true',Hp,decide_eq_false_iff_not]at htk;obtain⟨htk1,htk2⟩:=htk;have hn':∀x,AS.ow x∉ls:=fun x q=>hn x (Aq _ q)
  have hl0:Bc F S g w (fun _=>False) l v:=by
   obtain⟨v',I,Q⟩:=hok 0 l rfl;simp only[AM,AD]at I;exact I▸Q
  by_cases hal:∃r sub,l=.al r sub
  .obtain⟨r,sub,rfl⟩:=hal;obtain⟨x,u,q,hu,hsub⟩:=hl0;simp only[Ja,q]at J;have hother:∀l'∈ls,l'.Bm≠some r:=by
    intro l' e hr;rcases htk1 l' e with O|O
    .simp[rV]at O
    .exact O hr.symm
   split at J
   .rename_i S1 ls1 heq;simp only[AD,Au]at J;obtain⟨rfl,rfl⟩:=J;obtain⟨htaken,htr,nf,hcells,Z⟩:=ih (S:=S.out r) (S':=S1) (ls':=ls1) (vs:=vs) (h.out q) hn' E (by
     intro c l' e;obtain⟨v',I,Q⟩:=hok (c+1) l' (by simpa using e);exact⟨v',by simpa using I,Q.out q (hother l' (Ai e))⟩) htk2 heq
    have hown:Own w x u (g.fp r):=by
     obtain⟨u',hu',Q⟩:=h.Cg r _ q;rw[hu]at hu';cases hu';exact Q
    obtain⟨S0,hS0,hO⟩:=Q5 hown hsub;refine⟨⟨htaken.inv,fun X y H=>ib q (htaken.same X y H),fun id hid=>Ym (htaken.bx id hid),htaken.pin.trans sQ⟩,?_,fun c=>match c with|0=>S0|c+1=>nf c,⟨?_,?_,?_⟩,?_⟩
    .intro fp l' v' Q j;exact htr fp l' v' (Q.out q (j r sub (by simp))) fun r2 sub2 hm=>j r2 sub2 (Aq _ hm)
    .simpa using hcells.1
    .intro c l' e;cases c with|zero=>simp only[AM,AD]at e;subst e;exact⟨v,rfl,hO⟩|succ c=>exact hcells.2.1 c l' (by simpa using e)
    .have hself:(∀b,S0 b->¬F.K b)/\(∀X,B1 S1 X->∀b,S0 b->¬g.fp X b)/\(∀id,(get S1.bx id).isSome->¬S0 (g.β id)):=by
      refine⟨fun b G=>h.Gu r ⟨x,q⟩ b (hS0 b G),fun X j b G=>?_,fun id hid G=>?_⟩
      .have:=Iy q (htaken.al X j);exact h.dis r X ⟨x,q⟩ this.2 (Ne.symm this.1) b (hS0 b G)
      .exact h.E7 r id ⟨x,q⟩ (Ym (htaken.bx id hid)) (hS0 _ G)
     have hcross:∀c Y,ls1[c]?=some (.ow Y)->∀b,S0 b->¬nf c b:=by
      intro c Y B b G hb';obtain⟨X,j,hsubs⟩:=Z c Y B;have:=Iy q j;exact h.dis r X ⟨x,q⟩ this.2 (Ne.symm this.1) b (hS0 b G) (hsubs b hb')
     intro c y H;cases c with
     |zero=>
      refine⟨hself.1,hself.2.1,hself.2.2,?_⟩;intro L Y B hne b G;cases L with
      |zero=>exact(hne rfl).elim|succ L=>exact hcross L Y (by simpa using B) b G
     |succ c=>
      obtain⟨O,h2,h3,h4⟩:=hcells.2.2 c y (by simpa using H);refine⟨O,h2,h3,?_⟩;intro L Y B hne b G;cases L with
      |zero=>exact fun hb'=>hcross c y (by simpa using H) b hb' G|succ L=>exact h4 L Y (by simpa using B) (by omega) b G
    .intro c y H;cases c with
     |zero=>exact⟨r,⟨x,q⟩,hS0⟩|succ c=>
      obtain⟨X,j,hsubs⟩:=Z c y (by simpa using H);exact⟨X,(Iy q j).2,hsubs⟩
   .cases J
  .have htg:Ja S (l::ls)=match Ja S ls with|some (S',ls')=>some (S',l::ls')|none=>none:=by
    cases l<;>first|rfl|exact(hal ⟨_,_,rfl⟩).elim
   rw[htg]at J;split at J
   .rename_i S1 ls1 heq;simp only[AD,Au]at J;obtain⟨rfl,rfl⟩:=J;obtain⟨htaken,htr,nf,hcells,Z⟩:=ih (S:=S) (S':=S1) (ls':=ls1) (vs:=vs) h hn' E (by
     intro c l' e;obtain⟨v',I,Q⟩:=hok (c+1) l' (by simpa using e);exact⟨v',by simpa using I,Q⟩) htk2 heq
    have hno:∀x,l≠.ow x:=by rintro x rfl;exact hn x (by simp)
    refine⟨htaken,?_,fun c=>match c with|0=>fun _=>False|c+1=>nf c,⟨by simpa using hcells.1,?_,?_⟩,?_⟩
    .intro fp l' v' Q j;exact htr fp l' v' Q fun r2 sub2 hm=>j r2 sub2 (Aq _ hm)
    .intro c l' e;cases c with
     |zero=>
      simp only[AM,AD]at e;subst e;refine⟨v,rfl,htr _ _ _ hl0 ?_⟩;intro r sub hm hr;rcases htk1 _ hm with O|O
      .simp[rV]at O
      .exact O hr
     |succ c=>exact hcells.2.1 c l' (by simpa using e)
    .intro c y H;cases c with
     |zero=>simp only[AM,AD]at H;exact(hno y H).elim|succ c=>
      obtain⟨O,h2,h3,h4⟩:=hcells.2.2 c y (by simpa using H);refine⟨O,h2,h3,?_⟩;intro L Y B hne b G;cases L with
      |zero=>simp only[AM,AD]at B;exact(hno Y B).elim|succ L=>exact h4 L Y (by simpa using B) (by omega) b G
    .intro c y H;cases c with|zero=>simp only[AM,AD]at H;exact(hno y H).elim|succ c=>exact Z c y (by simpa using H)
   .cases J
end
section
variable{F:Fix}{S S':St}{g g':Gh}{a a':Act}{w w':World}
def Gh.FJ(g:Gh)(d blk:Nat)(vs:List Value)(nf:Nat->Blk):Gh:=
 { g with β:=fun i=>if i=d then blk else g.β i,bv:=fun i=>if i=d then vs else g.bv i,fp:=fun r=>match r with|.cell b c=>if b=d then nf c else g.fp (.cell b c)|.tmp s c=>g.fp (.tmp s c)}
theorem M3{d:Nat}{ls:List AS}(r:B0):({ S with bx:=put S.bx d ls}:St).at r=match r with|.cell b c=>if b=d then ls[c]? else S.at (.cell b c)|.tmp s c=>S.at (.tmp s c):=by
 grind[St.at,FB]
theorem Inv.AGQ(h:Inv F S g a w){d blk:Nat}{E:TypeId}{vs:List Value}{ls:List AS}{nf:Nat->Blk}
 (hs:Still w w') (hw:∀b,b≠blk->b<w.heap.size->w'.heap[b]?=w.heap[b]?) (hblk:w'.heap[blk]?=some (.cells vs.toArray E (0,0)))
 (hK:¬F.K blk) (hfpb:∀r,B1 S r->¬g.fp r blk) (hβ:∀id,id≠d->(get S.bx id).isSome->g.β id≠blk)
 (hnames:g.β d=blk\/(∀r l,S.at r=some l->(∀c,r≠.cell d c)->d∉names l)/\∀l∈ls,d∉names l)
 (hroots:∀l,(l∈ls\/∃r,S.at r=some l/\∀c,r≠.cell d c)->∀c x,l.Bm=some (.cell d c)->S.at (.cell d c)=some (.ow x) ->
  ls[c]?=some (.ow x)/\vs[c]?=(g.bv d)[c]?/\∀b,g.fp (.cell d c) b->nf c b)
 (hlen:vs.length=ls.length) (hl:∀(c:Nat) (l:AS),ls[c]?=some l->∃v,vs[c]?=some v/\Bc F S g w (nf c) l v)
 (I:∀(c:Nat) x,ls[c]?=some (.ow x)->(∀b,nf c b->¬F.K b)/\(∀r,B1 S r->(∀c',r≠.cell d c')->∀b,nf c b->¬g.fp r b) /\
  (∀id,(get S.bx id).isSome->id≠d->¬nf c (g.β id))/\¬nf c blk/\∀(c':Nat) x',ls[c']?=some (.ow x')->c≠c'->∀b,nf c b->¬nf c' b)
 (hpin:d∈S.pin->(get S.bx d).isSome/\g.β d=blk):Inv F { S with bx:=Lv.put S.bx d ls} (g.FJ d blk vs nf) a w':=by
 have tmpd:∀r:B0,(∃c,r=B0.cell d c)\/∀c,r≠B0.cell d c:=by
  intro r;by_cases y:∃c,r=B0.cell d c
  .exact .inl y
  .exact .inr fun c hc=>y ⟨c,hc⟩
 have hrv:∀r,(∀c,r≠.cell d c)->(g.FJ d blk vs nf).rv r=g.rv r:=by
  intro r q;cases r with
  |tmp s c=>rfl|cell b c=>
   have:b≠d:=by rintro rfl;exact q c rfl
   simp[Gh.rv,Gh.FJ,this]
 have X:∀r,(∀c,r≠.cell d c)->(g.FJ d blk vs nf).fp r=g.fp r:=by
  intro r q;cases r with
  |tmp s c=>rfl|cell b c=>
   have:b≠d:=by rintro rfl;exact q c rfl
   simp[Gh.FJ,this]
 have hat:∀r,(∀c,r≠.cell d c)->({ S with bx:=Lv.put S.bx d ls}:St).at r=S.at r:=by
  intro r q;rw[M3];cases r with
  |tmp s c=>rfl|cell b c=>
   have:b≠d:=by rintro rfl;exact q c rfl
   simp[this]
 have fpd:∀c,(g.FJ d blk vs nf).fp (.cell d c)=nf c:=fun c=>by simp[Gh.FJ]
 have hKw:∀b,F.K b->w'.heap[b]?=w.heap[b]?:=fun b e=>hw b (by rintro rfl;exact hK e) (BF (h.rlt b e) h.size)
 have hfw:∀r,B1 S r->∀b,g.fp r b->w'.heap[b]?=w.heap[b]?:=by
  rintro r ⟨x,y⟩ b e;obtain⟨v,_,H⟩:=h.Cg r _ y;exact hw b (by rintro rfl;exact hfpb r ⟨x,y⟩ e) (Own.lt H b e)
 have tr:∀{fp:Blk} {l:AS} {v:Value},(l∈ls\/∃r,S.at r=some l/\∀c,r≠.cell d c)->(∀x,l=.ow x->∀b,fp b->w'.heap[b]?=w.heap[b]?) ->
  Bc F S g w fp l v->Bc F { S with bx:=Lv.put S.bx d ls} (g.FJ d blk vs nf) w' fp l v:=by
  intro fp l v hmem hfpw H;by_cases how:∃x,l=.ow x
  .obtain⟨x,rfl⟩:=how;exact Own.frame H (hfpw x rfl)
  .have hn:∀x,l≠.ow x:=fun x y=>how ⟨x,y⟩
   refine Bc.any hn ((Bc.any (fp':=fun _=>False) hn H).tr ?_ ?_ (fun _ h=>h.elim) hKw)
   .intro r q;obtain⟨x,y⟩:=H.alive q;rcases tmpd r with ⟨c,rfl⟩|Z
    .obtain⟨G,O,h3⟩:=hroots l hmem c x q y;refine⟨?_,?_,?_,hfw _ ⟨x,y⟩⟩
     .rw[M3];simpa using G.trans y.symm
     .simpa[Gh.rv,Gh.FJ] using O
     .intro b e;rw[fpd];exact h3 b e
    .exact⟨hat r Z,hrv r Z,fun b e=>(X r Z).symm▸e,hfw r ⟨x,y⟩⟩
   .intro id j;by_cases B:id=d
    .subst B;rcases hnames with e|⟨G,O⟩
     .simp[Gh.FJ,e]
     .rcases hmem with hm|⟨r,q,Z⟩
      .exact(O l hm j).elim
      .exact(G r l q Z j).elim
    .simp[Gh.FJ,B]
 have J:∀c,B1 { S with bx:=Lv.put S.bx d ls} (.cell d c)->∃x,ls[c]?=some (.ow x):=by
  rintro c ⟨x,y⟩;rw[M3]at y;exact⟨x,by simpa using y⟩
 have hal:∀r,(∀c,r≠.cell d c)->B1 { S with bx:=Lv.put S.bx d ls} r->B1 S r:=by
  rintro r q ⟨x,y⟩;exact⟨x,(hat r q)▸y⟩
 have hsome:∀id,id≠d->(get (Lv.put S.bx d ls) id).isSome->(get S.bx id).isSome:=by
  intro id j hs;rw[FB,if_neg j]at hs;exact hs
 have hβd:(g.FJ d blk vs nf).β d=blk:=by simp[Gh.FJ]
 have hβo:∀id,id≠d->(g.FJ d blk vs nf).β id=g.β id:=fun id j=>by simp[Gh.FJ,j]
 have hnlt:∀(c:Nat) x,ls[c]?=some (.ow x)->∀b,nf c b->w'.heap[b]?=w.heap[b]?:=by
  intro c x y b e;obtain⟨v,_,H⟩:=hl c _ y;exact hw b (by rintro rfl;exact(I c x y).2.2.2.1 e) (Own.lt H b e)
 refine { Cg:=?_,tms:=h.tms,bxs:=?_,dis:=?_,E7:=?_,Gu:=?_,GA:=?_,bxR:=?_,E4:=fun b e=>(hKw b e).trans (h.E4 b e),rlt:=h.rlt,still:=h.still.trans hs,defs:=h.defs,tsz:=h.tsz,pin:=?_}
 .intro r l L;rcases tmpd r with ⟨c,rfl⟩|q
  .rw[M3]at L;simp only[if_true]at L;obtain⟨v,hv,H⟩:=hl c l L;refine⟨v,by simpa[Gh.rv,Gh.FJ] using hv,?_⟩;rw[fpd];exact tr (.inl (Ai L)) (by rintro x rfl;exact hnlt c x L) H
  .rw[hat r q]at L;obtain⟨v,hv,H⟩:=h.Cg r l L;refine⟨v,(hrv r q).trans hv,?_⟩;rw[X r q];exact tr (.inr ⟨r,L,q⟩) (by rintro x rfl;exact hfw r ⟨x,L⟩) H
 .intro id ls' hls;simp only[FB]at hls;by_cases j:id=d
  .subst j;simp only[if_true,AD]at hls;subst hls;exact⟨⟨E,by simpa[Gh.FJ] using hblk⟩,by simpa[Gh.FJ] using hlen⟩
  .simp only[if_neg j]at hls;obtain⟨⟨E',hE⟩,O⟩:=h.bxs id ls' hls;refine⟨⟨E',?_⟩,by simpa[Gh.FJ,j] using O⟩;rw[hβo id j,hw _ (hβ id j (by simp[hls])) (Av.1 hE).1,hE];simp[Gh.FJ,j]
 .intro r r' q hr' Z b e Q;rcases tmpd r with ⟨c,rfl⟩|G
  .obtain⟨x,y⟩:=J c q;rw[fpd]at e;rcases tmpd r' with ⟨c',rfl⟩|O
   .obtain⟨x',hx'⟩:=J c' hr';rw[fpd]at Q;exact(I c x y).2.2.2.2 c' x' hx' (by rintro rfl;exact Z rfl) b e Q
   .rw[X r' O]at Q;exact(I c x y).2.1 r' (hal r' O hr') O b e Q
  .rw[X r G]at e;rcases tmpd r' with ⟨c',rfl⟩|O
   .obtain⟨x',hx'⟩:=J c' hr';rw[fpd]at Q;exact(I c' x' hx').2.1 r (hal r G q) G b Q e
   .rw[X r' O]at Q;exact h.dis r r' (hal r G q) (hal r' O hr') Z b e Q
 .intro r id q j e;by_cases B:id=d
  .subst B;rw[hβd]at e;rcases tmpd r with ⟨c,rfl⟩|G
   .obtain⟨x,y⟩:=J c q;rw[fpd]at e;exact(I c x y).2.2.2.1 e
   .rw[X r G]at e;exact hfpb r (hal r G q) e
  .rw[hβo id B]at e;rcases tmpd r with ⟨c,rfl⟩|G
   .obtain⟨x,y⟩:=J c q;rw[fpd]at e;exact(I c x y).2.2.1 id (hsome id B j) B e
   .rw[X r G]at e;exact h.E7 r id (hal r G q) (hsome id B j) e
 .intro r q b e;rcases tmpd r with ⟨c,rfl⟩|G
  .obtain⟨x,y⟩:=J c q;rw[fpd]at e;exact(I c x y).1 b e
  .rw[X r G]at e;exact h.Gu r (hal r G q) b e
 .intro id id' G O he;by_cases hi:id=d
  .by_cases Y:id'=d
   .exact hi.trans Y.symm
   .subst hi;rw[hβd,hβo id' Y]at he;exact(hβ id' Y (hsome id' Y O) he.symm).elim
  .by_cases Y:id'=d
   .subst Y;rw[hβd,hβo id hi]at he;exact(hβ id hi (hsome id hi G) he).elim
   .rw[hβo id hi,hβo id' Y]at he;exact h.GA id id' (hsome id hi G) (hsome id' Y O) he
 .intro id G;by_cases hi:id=d
  .subst hi;rw[hβd];exact hK
  .rw[hβo id hi];exact h.bxR id (hsome id hi G)
 .intro p hp;obtain⟨G,O⟩:=h.pin p hp;refine⟨G,fun hsm=>?_⟩;by_cases hi:p=d
  .subst hi;rw[hβd];exact(hpin hp).2.symm.trans (O (hpin hp).1)
  .rw[hβo p hi];exact O (hsome p hi hsm)
end
theorem OC{α:Type}(ls:List α)(o:Nat)(cs:List α):(DS ls o cs).length=ls.length:=by
 induction cs generalizing ls o with
 |nil=>rfl|cons c cs e=>simp[DS,e]
theorem Fz{α:Type}(ls:List α)(o:Nat)(cs:List α)(h:o+cs.length<=ls.length)(c:Nat) :
 (DS ls o cs)[c]?=if o<=c/\c<o+cs.length then cs[c-o]? else ls[c]?:=by
 induction cs generalizing ls o with
 |nil=>simp only[DS,AP,Cm];rw[if_neg (by omega)]|cons x cs e=>
  grind[DS,List.length_cons]
theorem NT{α:Type}(ls:List α)(o:Nat)(cs:List α)(h:o+cs.length<=ls.length):DS ls o cs=ls.take o++cs++ls.drop (o+cs.length):=by
 apply List.ext_getElem?;intro c;rw[Fz ls o cs h,Bv,IB,IB]
 grind[List.length_take,min]
section
variable{F:Fix}{S S':St}{g g':Gh}{a a':Act}{w w':World}
theorem Yi{d:Nat}{l:AS}(h:E5 d l=false):d∉names l:=by
 cases l with
 |bp id off=>simp[E5,AS.Ll]at h;simp[names,Ne.symm h]|fn f caps=>
  grind[E5,List.any_eq_false,names,AS.Ll]
 |_=>simp[names]
theorem N8{d c:Nat}{l:AS}(h:E5 d l=false):l.Bm≠some (.cell d c):=by
 intro e;have:=zf e;cases l<;>simp_all[E5,AS.Bm]
theorem LP(q:AS->Bool)(c:q (.t .top)=false){r:B0}{l:AS}(h:(S.kill q).at r=some l):q l=false:=by
 grind[HV,Option.map_eq_some_iff]
theorem Qw(q:AS->Bool)(c:q (.t .top)=false){ls:List AS}{l:AS}(h:l∈Dx q ls):q l=false:=by
 grind[List.getElem?_of_mem,Fk,Option.map_eq_some_iff]
theorem Cells.grow{cs:List AS}{vs:List Value}{nf:Nat->Blk}(h:Inv F S g a w)(y:Cells F S g w cs vs nf)
 (G:∀b,b<w.heap.size->w'.heap[b]?=w.heap[b]?):Cells F S g w' cs vs nf:=by
 refine⟨y.1,?_,y.2.2⟩;intro c l J;obtain⟨v,L,e⟩:=y.2.1 c l J;refine⟨v,L,?_⟩;have B:∀r,B1 S r->∀b,g.fp r b->w'.heap[b]?=w.heap[b]?:=by
  rintro r ⟨x,H⟩ b j;obtain⟨v,_,e⟩:=h.Cg r _ H;exact G b (Own.lt e b j)
 by_cases q:∃x,l=.ow x
 .obtain⟨x,rfl⟩:=q;exact Own.frame e fun b j=>G b (Own.lt e b j)
 .have I:∀x,l≠.ow x:=fun x H=>q ⟨x,H⟩
  exact Bc.any I ((Bc.any (fp':=fun _=>False) I e).tr (S':=S) (g':=g) (w':=w') (fun O E=>⟨rfl,rfl,fun _ h=>h,B O (e.alive E)⟩) (fun _ _=>rfl) (fun _ h=>h.elim)
   fun b j=>G b (BF (h.rlt b j) h.size))
def World.push(w:World)(o:Obj):World:={ w with heap:=w.heap.push o}
theorem EZ{o:Obj}{b:Nat}(c:b<w.heap.size):(World.push w o).heap[b]?=w.heap[b]?:=by
 show (w.heap.push o)[b]?=_;rw[Fl,if_neg (Mm c)]
theorem MI{o:Obj}:(World.push w o).heap[w.heap.size]?=some o:=by
 show (w.heap.push o)[w.heap.size]?=_;rw[Fl,if_pos rfl]
theorem Still.push{o:Obj}:Still w (World.push w o):=Still.alloc
def Mc(d:Nat)(l:AS):Bool:=EO d l||E5 d l
theorem Inv.AN4(h:Inv F S g a w){d:Nat}(hd:d<F.N)(hp:d∉S.pin){cs:List AS}{vs:List Value}{nf:Nat->Blk}(hc:Cells F S g w cs vs nf)(E:TypeId) :
 ∃g',Inv F { S.kill (Mc d) with tm:=Lv.put (S.kill (Mc d)).tm d ⟨.one,[.bp d 0]⟩,bx:=Lv.put (S.kill (Mc d)).bx d (Dx (Mc d) cs)} g'
  (a.put (some d) (.pointer (some ⟨w.heap.size,0,none⟩))) (World.push w (.cells vs.toArray E (0,0))):=by
 have hq:∀x,Mc d (.ow x)=false:=fun x=>rfl
 have B:Mc d (.t .top)=false:=rfl;have j:∀{l},Mc d l=false->E5 d l=false/\EO d l=false:=by
  intro l q;simp only[Mc,Bool.or_eq_false_iff]at q;exact⟨q.2,q.1⟩
 have Q:=h.kill (Mc d) hq;have y:=hc.kill (Mc d) hq;have Y:∀r,B1 (S.kill (Mc d)) r->¬g.fp r w.heap.size:=by
  rintro r ⟨x,G⟩ J;obtain⟨v,_,I⟩:=Q.Cg r _ G;exact IY _ (Own.lt I _ J)
 have L:∀(c:Nat) x,(Dx (Mc d) cs)[c]?=some (.ow x)->¬nf c w.heap.size:=by
  intro c x G J;obtain⟨v,_,I⟩:=y.2.1 c _ G;exact IY _ (Own.lt I _ J)
 have h2:=Q.AGQ (d:=d) (blk:=w.heap.size) (E:=E) (vs:=vs) (ls:=Dx (Mc d) cs) (nf:=nf) (w':=World.push w (.cells vs.toArray E (0,0)))
  Still.push (fun b _ J=>EZ J) MI (fun hK=>IY _ (BF (h.rlt _ hK) h.size)) Y
  (by
   intro id _ H he;obtain⟨ls,X⟩:=BV.1 H;obtain⟨⟨E',hE⟩,_⟩:=Q.bxs id ls X;rw[he]at hE;simp at hE)
  (.inr ⟨fun r l q _=>Yi (j (LP _ B q)).1,fun l q=>Yi (j (Qw _ B q)).1⟩)
  (by
   rintro l (q|⟨r,q,_⟩) c x O _
   .exact(N8 (j (Qw _ B q)).1 O).elim
   .exact(N8 (j (LP _ B q)).1 O).elim)
  y.1 y.2.1 (fun c x G=>⟨(y.2.2 c x G).1,fun r O _=>(y.2.2 c x G).2.1 r O,fun id H _=>(y.2.2 c x G).2.2.1 id H,L c x G,(y.2.2 c x G).2.2.2⟩)
  (fun Z=>(hp Z).elim)
 refine⟨_,h2.put (d:=d) (e:=⟨.one,[.bp d 0]⟩) (vs:=[.pointer (some ⟨w.heap.size,0,none⟩)]) (nf:=fun _ _=>False) hd hp ?_ ?_ ?_⟩
 .intro r l q _;rw[M3]at q;cases r with
  |tmp s c=>exact(j (LP _ B q)).2|cell b c=>
   simp only at q;split at q
   .exact(j (Qw _ B (Ai q))).2
   .exact(j (LP _ B q)).2
 .simp[EO,AS.Bm]
 .refine Cells.free rfl ?_ (by simp);intro c l q;cases c with|zero=>simp only[AM,AD]at q;subst q;exact⟨_,rfl,by show _=_;simp[Gh.FJ]⟩|succ c=>simp at q
theorem zp{blk:Nat}{cur new:Array Value}{E:TypeId}(h:w.heap[blk]?=some (.cells cur E (0,0))):(w.setRow blk new).heap[blk]?=some (.cells new E (0,0)):=by
 simp[World.setRow,FF,h]
theorem setRow_other{blk b:Nat}{new:Array Value}(h:b≠blk):(w.setRow blk new).heap[b]?=w.heap[b]?:=by
 simp[World.setRow,FF,Ne.symm h]
theorem Inv.APx(h:Inv F S g a w){cs:List AS}{vs:List Value}{nf:Nat->Blk}(hc:Cells F S g w cs vs nf){id o:Nat}{ls:List AS}
 (hls:get (S.kill (Hj id o cs.length)).bx id=some ls) (hle:o+cs.length<=ls.length) :
 ∃g',Inv F { S.kill (Hj id o cs.length) with bx:=Lv.put (S.kill (Hj id o cs.length)).bx id (DS ls o (Dx (Hj id o cs.length) cs))} g' a
  (w.setRow (g.β id) ((g.bv id).take o++vs++(g.bv id).drop (o+vs.length)).toArray):=by
 generalize hqd:Hj id o cs.length=q at *;have hq:∀x,q (.ow x)=false:=fun x=>by subst hqd;rfl
 have hqt:q (.t .top)=false:=by subst hqd;rfl
 have I:=h.kill q hq;have hc1:=hc.kill q hq;have hroot:∀{l:AS} {c:Nat},q l=false->l.Bm=some (.cell id c)->¬(o<=c/\c<o+cs.length):=by
  intro l c G e L;subst hqd;simp only[Hj,e,decide_true,Bool.true_and,Hp,decide_eq_false_iff_not]at G;omega
 obtain⟨⟨E,hE⟩,hlen⟩:=I.bxs id ls hls;have hsome:(get (S.kill q).bx id).isSome:=by simp[hls]
 have hkl:(Dx q cs).length=cs.length:=Ec _ _;have hvl:vs.length=cs.length:=hc.1;have Z:o+vs.length<=(g.bv id).length:=by omega
 have B:∀c,(DS ls o (Dx q cs))[c]?=if o<=c/\c<o+cs.length then (Dx q cs)[c-o]? else ls[c]?:=by
  intro c;rw[Fz _ _ _ (by omega),hkl]
 have hgetv:∀c,((g.bv id).take o++vs++(g.bv id).drop (o+vs.length))[c]?=if o<=c/\c<o+cs.length then vs[c-o]? else (g.bv id)[c]?:=by
  intro c;rw[<-NT _ _ _ Z,Fz _ _ _ Z,hvl]
 have y:∀c,(S.kill q).at (.cell id c)=ls[c]?:=by intro c;simp[St.at,hls]
 have hlen2:((g.bv id).take o++vs++(g.bv id).drop (o+vs.length)).length=(DS ls o (Dx q cs)).length:=by
  rw[<-NT _ _ _ Z,OC,OC,hlen]
 let j:Nat->Blk:=fun c=>if o<=c/\c<o+cs.length then nf (c-o) else g.fp (.cell id c)
 have hcase:∀(c:Nat) x,(DS ls o (Dx q cs))[c]?=some (.ow x) ->
  (o<=c/\c<o+cs.length/\(Dx q cs)[c-o]?=some (.ow x)/\j c=nf (c-o))\/(¬(o<=c/\c<o+cs.length)/\(S.kill q).at (.cell id c)=some (.ow x)/\j c=g.fp (.cell id c)):=by
  intro c x Q;rw[B]at Q;by_cases e:o<=c/\c<o+cs.length
  .rw[if_pos e]at Q;exact .inl ⟨e.1,e.2,Q,by simp[j,e]⟩
  .rw[if_neg e]at Q;exact .inr ⟨e,(y c).trans Q,by simp only[j,if_neg e]⟩
 refine⟨_,I.AGQ (d:=id) (blk:=g.β id) (E:=E) (nf:=j) Still.setRow (fun b L _=>setRow_other L) (zp hE) (I.bxR id hsome)
  (fun r e=>I.E7 r id e hsome) (fun X H hs he=>H (I.GA X id hs hsome he)) (.inl rfl) ?_ hlen2 ?_ ?_ (fun _=>⟨hsome,rfl⟩)⟩
 .intro l G c x e Q;have hql:q l=false:=by
   rcases G with G|⟨r,G,_⟩
   .obtain⟨c',O⟩:=BT G;rw[B]at O;split at O
    .exact Qw _ hqt (Ai O)
    .exact LP _ hqt ((y c').trans O)
   .exact LP _ hqt G
  have J:=hroot hql e;refine⟨?_,?_,?_⟩
  .rw[B,if_neg J,<-y];exact Q
  .rw[hgetv,if_neg J]
  .intro b L;simp only[j,if_neg J];exact L
 .intro c l G;rw[B]at G;by_cases e:o<=c/\c<o+cs.length
  .rw[if_pos e]at G;obtain⟨v,hv,hok⟩:=hc1.2.1 _ _ G;exact⟨v,by rw[hgetv,if_pos e];exact hv,by simp only[j,if_pos e];exact hok⟩
  .rw[if_neg e]at G;obtain⟨v,hv,hok⟩:=I.Cg (.cell id c) l ((y c).trans G);exact⟨v,by rw[hgetv,if_neg e];exact hv,by simp only[j,if_neg e];exact hok⟩
 .intro c x Q;rcases hcase c x Q with ⟨h3,Y,h5,h6⟩|⟨h3,Y,h6⟩
  .obtain⟨p1,p2,p3,p4⟩:=hc1.2.2 _ _ h5;rw[h6];refine⟨p1,fun r e _=>p2 r e,fun X hs _=>p3 X hs,p3 id hsome,?_⟩;intro c' x' hx' H b L;rcases hcase c' x' hx' with ⟨k3,k4,k5,k6⟩|⟨k3,k4,k6⟩
   .rw[k6];exact p4 _ _ k5 (by omega) b L
   .rw[k6];exact p2 _ ⟨_,k4⟩ b L
  .rw[h6];refine⟨I.Gu _ ⟨_,Y⟩,fun r e H=>I.dis _ _ ⟨_,Y⟩ e (Ne.symm (H c)),fun X hs _=>I.E7 _ _ ⟨_,Y⟩ hs,I.E7 _ _ ⟨_,Y⟩ hsome,?_⟩;intro c' x' hx' H b L;rcases hcase c' x' hx' with ⟨k3,k4,k5,k6⟩|⟨k3,k4,k6⟩
   .rw[k6];exact fun hb'=>(hc1.2.2 _ _ k5).2.1 _ ⟨_,Y⟩ b hb' L
   .rw[k6];exact I.dis _ _ ⟨_,Y⟩ ⟨_,k4⟩ (by simpa using H) b L
theorem Inv.sZ(h:Inv F S g a w){r:B0}{e:Nat}{xs ys:List (List T)}{u:Value}{fp':Blk}(hx:S.at r=some (.ow (.sl e xs)))(hu:g.rv r=some u)(hl:ys.length=xs.length)
 (hs:Still w w') (hw:∀b,b<w.heap.size->¬g.fp r b->w'.heap[b]?=w.heap[b]?) (hown:Own w' (.sl e ys) u fp') (hK:∀b,fp' b->¬F.K b)
 (hdis:∀c,B1 S c->c≠r->∀b,fp' b->¬g.fp c b) (hB:∀id,(get S.bx id).isSome->¬fp' (g.β id)) :
 Inv F ((S.Be r (.ow (.sl e ys))).kill (Eo r)) { g with fp:=fun c=>if c=r then fp' else g.fp c} a w':=by
 have hat:∀c,((S.Be r (.ow (.sl e ys))).kill (Eo r)).at c=(if c=r then some (.ow (.sl e ys)) else S.at c).map fun l=>if Eo r l then .t .top else l:=by
  intro c;rw[HV,Fp hx]
 have X:∀c,B1 ((S.Be r (.ow (.sl e ys))).kill (Eo r)) c->B1 S c:=by
  rintro c ⟨x,hx'⟩;rw[hat,AK]at hx';obtain⟨l,I,J⟩:=hx';split at J
  .cases J
  .subst J;split at I
   .subst_vars;exact⟨_,hx⟩
   .exact⟨x,I⟩
 have hsome:∀id,(get ((S.Be r (.ow (.sl e ys))).kill (Eo r)).bx id).isSome->(get S.bx id).isSome:=by
  intro id hid;simp only[St.kill,C1,JP]at hid
  rwa[DX]at hid
 have hKw:∀b,F.K b->w'.heap[b]?=w.heap[b]?:=fun b q=>hw b (BF (h.rlt b q) h.size) fun hf=>h.Gu r ⟨_,hx⟩ b hf q
 have hfw:∀c,B1 S c->c≠r->∀b,g.fp c b->w'.heap[b]?=w.heap[b]?:=by
  rintro c ⟨x,hx'⟩ H b q;obtain⟨v,_,O⟩:=h.Cg c _ hx';exact hw b (Own.lt O b q) (h.dis c r ⟨x,hx'⟩ ⟨_,hx⟩ H b q)
 let g':Gh:={ g with fp:=fun c=>if c=r then fp' else g.fp c}
 have L:g'.fp r=fp':=by simp[g']
 have G:∀c,c≠r->g'.fp c=g.fp c:=fun c H=>by simp[g',H]
 have tr:∀{fp:Blk} {l:AS} {v:Value},Eo r l=false->(∀x,l≠.ow x)->Bc F S g w fp l v->Bc F ((S.Be r (.ow (.sl e ys))).kill (Eo r)) g' w' fp l v:=by
  intro fp l v hin hno O;by_cases hr:l.Bm=some r
  .match l,O with
   |.al y sub,⟨x,u1,B,Q,h3⟩=>
    cases hr;rw[hx]at B;cases B;refine⟨.sl e ys,u1,by rw[hat,if_pos rfl];rfl,Q,?_⟩;cases sub with
    |none=>exact h3|some p=>
     obtain⟨lo,n⟩:=p;obtain⟨blk,off,len,cap,off',cap',q1,q2,q3,q4⟩|⟨q1,q2,rfl,q4⟩:=h3
     .exact .inl ⟨blk,off,len,cap,off',cap',q1,q2,by omega,q4⟩
     .exact .inr ⟨q1,q2,List.eq_nil_of_length_eq_zero (by simpa using hl),q4⟩
   |.ep y i j,⟨Z,xs1,blk,off,len,cap,B,Q,h3,h4⟩=>
    cases hr;rw[hx]at B;cases B;exact⟨e,ys,blk,off,len,cap,by rw[hat,if_pos rfl];rfl,Q,by omega,h4⟩
   |.vw (.own y _) Z xs1,_=>cases hr;simp[Eo]at hin
   |.vp (.own y _) cs1,_=>cases hr;simp[Eo]at hin
  .refine Bc.any hno ((Bc.any (fp':=fun _=>False) hno O).tr ?_ (fun _ _=>rfl) (fun _ h=>h.elim) hKw);intro y hr1;obtain⟨x,hx1⟩:=O.alive hr1;have H:y≠r:=by rintro rfl;exact hr hr1
   refine⟨?_,rfl,fun b q=>by rw[G y H];exact q,hfw y ⟨x,hx1⟩ H⟩;rw[hat,if_neg H,hx1];rfl
 show Inv F _ g' a w';refine { Cg:=?_,tms:=?_,bxs:=?_,dis:=?_,E7:=?_,Gu:=?_,GA:=fun id id' B Q=>h.GA id id' (hsome id B) (hsome id' Q),bxR:=fun id B=>h.bxR id (hsome id B),E4:=fun b q=>(hKw b q).trans (h.E4 b q),rlt:=h.rlt,still:=h.still.trans hs,defs:=h.defs,tsz:=h.tsz,pin:=?_}
 .intro c l hl;rw[hat,AK]at hl;obtain⟨l0,I,J⟩:=hl;by_cases hr:c=r
  .subst hr;rw[if_pos rfl]at I;cases I;simp only[Eo,if_false,Bool.false_eq_true]at J;subst J;exact⟨u,hu,by rw[L];exact hown⟩
  .rw[if_neg hr]at I;obtain⟨v,hv,O⟩:=h.Cg c l0 I;refine⟨v,hv,?_⟩;split at J
   .subst J;exact Bc.top
   .rename_i hin;subst J;by_cases how:∃x,l0=.ow x
    .obtain⟨x,rfl⟩:=how;rw[G c hr];exact Own.frame O (hfw c ⟨x,I⟩ hr)
    .have hno:∀x,l0≠.ow x:=fun x hx=>how ⟨x,hx⟩
     exact Bc.any hno (tr (by simpa using hin) hno O)
 .intro s e' he;simp only[St.kill,Eb,AK]at he;obtain⟨Z,he1,rfl⟩:=he;obtain⟨e0,B,Q,h3⟩:=OG he1;obtain⟨p1,p2,p3⟩:=h.tms s e0 B;exact⟨p1,by rw[p2,Q],by rw[p3,Ec,h3]⟩
 .intro id ls' hls;simp only[St.kill,C1,AK]at hls;obtain⟨l1,I,rfl⟩:=hls;obtain⟨l0,B,Q⟩:=Jm I;obtain⟨⟨E,hE⟩,p2⟩:=h.bxs id l0 B;refine⟨⟨E,(hw _ (Av.1 hE).1 fun hf=>h.E7 r id ⟨_,hx⟩ (by simp[B]) hf).trans hE⟩,by rw[p2,Ec,Q]⟩
 .intro y r2 B Q H b q Y;by_cases Z:y=r
  .subst Z;rw[L]at q;rw[G r2 (Ne.symm H)]at Y;exact hdis r2 (X r2 Q) (Ne.symm H) b q Y
  .rw[G y Z]at q;by_cases e2:r2=r
   .subst e2;rw[L]at Y;exact hdis y (X y B) Z b Y q
   .rw[G r2 e2]at Y;exact h.dis y r2 (X y B) (X r2 Q) H b q Y
 .intro y id B hid q;by_cases Z:y=r
  .subst Z;rw[L]at q;exact hB id (hsome id hid) q
  .rw[G y Z]at q;exact h.E7 y id (X y B) (hsome id hid) q
 .intro y B b q;by_cases Z:y=r
  .subst Z;rw[L]at q;exact hK b q
  .rw[G y Z]at q;exact h.Gu y (X y B) b q
 .intro p hp;have hpp:p∈S.pin:=by
   have:((S.Be r (.ow (.sl e ys))).kill (Eo r)).pin=S.pin:=HP
   rwa[this]at hp
  obtain⟨B,Q⟩:=h.pin p hpp;exact⟨B,fun hs=>Q (hsome p hs)⟩
theorem Inv.APe(h:Inv F S g a w){r:B0}{e:Nat}{xs ys:List (List T)}{u:Value}{fp':Blk}(H:S.at r=some (.ow (.sl e xs)))(E:g.rv r=some u)(y:ys.length=xs.length)
 (B:Still w w') (G:∀b,b<w.heap.size->¬g.fp r b->w'.heap[b]?=w.heap[b]?) (j:Own w' (.sl e ys) u fp') (hK:∀b,fp' b->¬F.K b)
 (c:∀q,B1 S q->q≠r->∀b,fp' b->¬g.fp q b) (hB:∀id,(get S.bx id).isSome->¬fp' (g.β id)) :
 ∃g',Inv F ((S.Be r (.ow (.sl e ys))).kill (Eo r)) g' a w':=⟨_,h.sZ H E y B G j hK c hB⟩
end
section
variable{F:Fix}{S S':St}{g g':Gh}{a a':Act}{w w':World}
theorem uB{rows:List (List T)}{i j:Nat}{x y:T}(h:at2 rows i j=some y)(c e:Nat):at2 (Ir rows i j x) c e=if c=i/\e=j then some x else at2 rows c e:=by
 grind[at2,List.getElem?_eq_some_iff,List.getD,Ir]
theorem QF{rows:List (List T)}{i j:Nat}{x:T}:(Ir rows i j x).length=rows.length:=by simp[Ir]
theorem nD{rows:List (List T)}{i j e:Nat}{x:T}(h:∀row∈rows,row.length=e)(hi:i<rows.length):∀row∈Ir rows i j x,row.length=e:=by
 intro row c;rcases List.mem_or_eq_of_mem_set c with c|rfl
 .exact h row c
 grind[List.length_set,List.getD]
theorem Own.hole{e:Nat}{rows:List (List T)}{blk off len cap:Nat}{fp:Blk}{i j:Nat}{y:T}{v:Value}(h:Own w (.sl e rows) (.slice (some ⟨blk,off,none⟩) len cap) fp)(O:at2 rows i j=some y)
 (hv:w.cell? ⟨blk,off+i*e+j,none⟩=some v) :
 ∃S0 fp':Blk,Own w y v S0/\Own w (.sl e (Ir rows i j .top)) (.slice (some ⟨blk,off,none⟩) len cap) fp'/\(∀b,S0 b->fp b)/\(∀b,fp' b->fp b)/\∀b,S0 b->¬fp' b:=by
 cases h with
 |sc h _ _=>exact h.elim|sl c f h1 h2 h3 h4 h5 h6 h7 h8 h9 Q=>
  have hc:c i j=v:=by
   rw[h4.cell,h6 i j y O]at hv;exact Option.some.inj hv
  subst hc;have L:=h7 i j y O;have hi:=nj O;have H:∀q B x,at2 (Ir rows i j .top) q B=some x->(q=i/\B=j/\x=.top)\/(¬(q=i/\B=j)/\at2 rows q B=some x):=by
   intro q B x I;rw[uB O]at I;split at I
   .rename_i G;exact .inl ⟨G.1,G.2,(Option.some.inj I).symm⟩
   .rename_i G;exact .inr ⟨G,I⟩
  refine⟨f i j,fun b=>b=blk\/∃q B x,at2 (Ir rows i j .top) q B=some x/\(if q=i/\B=j then fun _=>False else f q B) b,L,
   .sl c (fun q B=>if q=i/\B=j then fun _=>False else f q B) (by rw[QF];exact h1) h2 (nD h3 hi) h4 h5 ?_ ?_ ?_ ?_ (fun b=>Iff.rfl),?_,?_,?_⟩
  .intro q B x I;rcases H q B x I with ⟨rfl,rfl,rfl⟩|⟨G,E⟩
   .exact h6 _ _ _ O
   .exact h6 _ _ _ E
  .intro q B x I;rcases H q B x I with ⟨rfl,rfl,rfl⟩|⟨G,E⟩
   .exact .sc trivial L.one (by simp)
   .rw[if_neg G];exact h7 _ _ _ E
  .intro q B x I;rcases H q B x I with ⟨rfl,rfl,rfl⟩|⟨G,E⟩
   .simp
   .rw[if_neg G];exact h8 _ _ _ E
  .intro i1 j1 x1 i2 j2 x2 hx1 hx2 hne b J;rcases H i1 j1 x1 hx1 with ⟨rfl,rfl,rfl⟩|⟨G,Y⟩
   .simp at J
   .rw[if_neg G]at J;rcases H i2 j2 x2 hx2 with ⟨rfl,rfl,rfl⟩|⟨hh2,Z⟩
    .simp
    .rw[if_neg hh2];exact h9 _ _ _ _ _ _ Y Z hne b J
  .intro b J;exact(Q b).2 (.inr ⟨i,j,y,O,J⟩)
  .rintro b (rfl|⟨q,B,x,I,J⟩)
   .exact(Q _).2 (.inl rfl)
   .rcases H q B x I with ⟨rfl,rfl,rfl⟩|⟨G,E⟩
    .simp at J
    .rw[if_neg G]at J;exact(Q b).2 (.inr ⟨q,B,x,E,J⟩)
  .rintro b J (rfl|⟨q,B,x,I,X⟩)
   .exact h8 i j y O J
   .rcases H q B x I with ⟨rfl,rfl,rfl⟩|⟨G,E⟩
    .simp at X
    .rw[if_neg G]at X;exact h9 i j y q B x O E (by rintro rfl rfl;exact G ⟨rfl,rfl⟩) b J X
def AGl(x x':T):Prop:=x'=x\/∃e xs xs',x=.sl e xs/\x'=.sl e xs'/\xs'.length=xs.length
theorem AGl.trans{x y z:T}(h:AGl x y)(j:AGl y z):AGl x z:=by
 rcases h with rfl|⟨e,xs,ys,rfl,rfl,q⟩
 .exact j
 .rcases j with rfl|⟨H,E,G,B,rfl,c⟩
  .exact .inr ⟨e,xs,ys,rfl,rfl,q⟩
  .cases B;exact .inr ⟨e,xs,G,rfl,rfl,c.trans q⟩
structure IU(F:Fix)(S S':St)(g g':Gh)(a:Act)(w:World):Prop where
 inv:Inv F S' g' a w
 y3:∀r x',S'.at r=some (.ow x')->∃x,S.at r=some (.ow x)/\AGl x x'
 bx:∀id,(get S'.bx id).isSome->(get S.bx id).isSome
 pin:S'.pin=S.pin
 tv:g'.tv=g.tv
 bv:g'.bv=g.bv
 β:g'.β=g.β
 fp:∀r b,g'.fp r b->g.fp r b
theorem RT.toG(h:RT F S S' g a w):IU F S S' g g a w:=⟨h.inv,fun r x c=>⟨x,h.same r x c,.inl rfl⟩,h.bx,h.pin,rfl,rfl,rfl,fun _ _ h=>h⟩
theorem IU.al(h:IU F S S' g g' a w):∀r,B1 S' r->B1 S r:=fun r ⟨x,c⟩=>let ⟨y,e,_⟩:=h.y3 r x c;⟨y,e⟩
theorem IU.rv(h:IU F S S' g g' a w)(r:B0):g'.rv r=g.rv r:=by cases r<;>simp[Gh.rv,h.tv,h.bv]
theorem IU.trans{S2:St}{q:Gh}(h:IU F S S' g g' a w)(c:IU F S' S2 g' q a w):IU F S S2 g q a w:=
 ⟨c.inv,fun r x G=>let ⟨y,H,E⟩:=c.y3 r x G;let ⟨z,I,j⟩:=h.y3 r y H;⟨z,I,j.trans E⟩,fun id e=>h.bx id (c.bx id e),c.pin.trans h.pin,c.tv.trans h.tv,c.bv.trans h.bv,c.β.trans h.β,fun r b B=>h.fp r b (c.fp r b B)⟩
theorem nP(h:Inv F S g a w){r:B0}{x:T}(e:S.at r=some (.ow x)):RT F S (S.out r) g a w:=
 ⟨h.out e,fun _ _ j=>ib e j,fun _ c=>Ym c,sQ⟩
theorem Bc.off{fp:Blk}{l:AS}{v:Value}(h:Bc F S g w fp l v){r:B0}(E:l.Bm≠some r)(hS:∀c,c≠r->B1 S c->S'.at c=S.at c)(B:∀c,c≠r->g'.fp c=g.fp c)(G:∀c,g'.rv c=g.rv c)(hβ:g'.β=g.β):Bc F S' g' w fp l v:=by
 refine h.tr ?_ (fun _ _=>by rw[hβ]) (fun _ _=>rfl) fun _ _=>rfl
 intro q j;have e:q≠r:=by rintro rfl;exact E j
 exact⟨hS q e (h.alive j),G q,fun b y=>by rw[B q e];exact y,fun _ _=>rfl⟩
theorem N4{r:B0}{i j:Nat}(c:S.pull r i j=some S'):∃e rows,S.at r=some (.ow (.sl e rows))/\S'=(S.Be r (.ow (.sl e (Ir rows i j .top)))).kill (Eo r):=by
 grind[St.pull,Option.some.inj]
theorem Oj{r:B0}{e:Nat}{rows ys:List (List T)}(h:S.at r=some (.ow (.sl e rows)))(c:B0) :
 ((S.Be r (.ow (.sl e ys))).kill (Eo r)).at c=(if c=r then some (.ow (.sl e ys)) else S.at c).map fun l=>if Eo r l then .t .top else l:=by
 rw[HV,Fp h]
theorem mg{r:B0}{e:Nat}{rows ys:List (List T)}(B:S.at r=some (.ow (.sl e rows)))(E:ys.length=rows.length) :
 ∀y q,((S.Be r (.ow (.sl e ys))).kill (Eo r)).at y=some (.ow q)->∃x,S.at y=some (.ow x)/\AGl x q:=by
 intro y q j;rw[Oj B,AK]at j;obtain⟨l,c,h⟩:=j;split at h
 .cases h
 .subst h;split at c
  .subst_vars
   cases c;exact⟨_,B,.inr ⟨e,rows,ys,rfl,rfl,E⟩⟩
  .exact⟨q,c,.inl rfl⟩
theorem ARa{r:B0}{e:Nat}{rows ys:List (List T)}(q:S.at r=some (.ow (.sl e rows))) :
 ∀c,c≠r->B1 S c->((S.Be r (.ow (.sl e ys))).kill (Eo r)).at c=S.at c:=by
 rintro c h ⟨x,j⟩;rw[Oj q,if_neg h,j];rfl
theorem ARb{r:B0}{l:AS}{id:Nat}(h:(get ((S.Be r l).kill (Eo r)).bx id).isSome):(get S.bx id).isSome:=by
 simp only[St.kill,C1,JP]at h
 rwa[DX]at h
theorem zN{r:B0}{l:AS}:((S.Be r l).kill (Eo r)).pin=S.pin:=HP
theorem Inv.pull(h:Inv F S g a w){r:B0}{i j e:Nat}{xs:List (List T)}{v:Value}(Y:S.pull r i j=some S')(X:AtC S g w r (some (i,j)) e xs v) :
 ∃(S0:Blk) (g':Gh),IU F S S' g g' a w/\Own w (.sl e xs) v S0/\(∀b,S0 b->g.fp r b)/\(∀b,S0 b->¬g'.fp r b)/\(∀c,c≠r->g'.fp c=g.fp c) /\
  (∀c,c≠r->B1 S c->S'.at c=S.at c)/\B1 S r:=by
 obtain⟨e0,rows,q,rfl⟩:=N4 Y;obtain⟨e1,rows1,blk,off,len,cap,O,Q,Z,k4,k5⟩:=X;rw[q]at O;cases O;obtain⟨u,L,G⟩:=h.Cg r _ q;rw[Q]at L;cases L;obtain⟨S0,fp',o1,o2,o3,J,o5⟩:=Own.hole G Z k5;have E:=h.sZ (w':=w) (ys:=Ir rows i j .top) (fp':=fp') q Q QF Still.refl (fun _ _ _=>rfl) o2 (fun b B=>h.Gu r ⟨_,q⟩ b (J b B)) (fun c I H b B=>h.dis r c ⟨_,q⟩ I (Ne.symm H) b (J b B))
  (fun id y B=>h.E7 r id ⟨_,q⟩ y (J _ B))
 refine⟨S0,_,⟨E,mg q QF,fun id y=>ARb y,zN,rfl,rfl,rfl,?_⟩,o1,o3,?_,?_,ARa q,⟨_,q⟩⟩
 .grind
 .grind
 grind
theorem sP{r:B0}{ls:List AS}(h:onR r ls=false):∀l∈ls,l.Bm≠some r:=by
 induction ls with
 |nil=>simp|cons l ls c=>
  grind[onR,Bool.or_eq_false_iff,decide_eq_false_iff_not]
def AJV(F:Fix)(S:St)(g:Gh)(w:World)(cs:List T)(vs:List Value)(nf:Nat->Blk):Prop:=
 vs.length=cs.length/\(∀(c:Nat) x,cs[c]?=some x->∃v,vs[c]?=some v/\Own w x v (nf c)) /\
  (∀c b,c<cs.length->nf c b->¬F.K b)/\(∀c r b,c<cs.length->B1 S r->nf c b->¬g.fp r b)/\(∀c id,c<cs.length->(get S.bx id).isSome->¬nf c (g.β id)) /\
  ∀c c' b,c<cs.length->c'<cs.length->c≠c'->nf c b->¬nf c' b
theorem Wz{ls:List AS}{cs:List T}{vs:List Value}(h:Inv F S g a w)(hn:∀x,AS.ow x∉ls)(Y:vs.length=ls.length)
 (hok:∀(c:Nat) (l:AS),ls[c]?=some l->∃v,vs[c]?=some v/\(∀r,l.Bm=some r->B1 S r->Bc F S g w (fun _=>False) l v)/\(l.Bm=none->Bc F S g w (fun _=>False) l v))
 (G:DI S ls=some (S',cs)) :
 ∃g',IU F S S' g g' a w /\
 ∃nf:Nat->Blk,AJV F S' g' w cs vs nf/\∀c b,c<cs.length->nf c b->∃l r,ls[c]?=some l/\l.Bm=some r/\B1 S r/\g.fp r b:=by
 induction ls generalizing S S' g cs vs with
 |nil=>
  simp only[DI,AD,Au]at G;obtain⟨rfl,rfl⟩:=G;exact⟨g,RT.toG ⟨h,fun _ _ h=>h,fun _ h=>h,rfl⟩,fun _ _=>False,⟨Y,by simp,by simp,by simp,by simp,by simp⟩,by simp⟩
 |cons l ls ih=>
  obtain⟨v,vs,rfl⟩:∃v vs',vs=v::vs':=by cases vs with|nil=>simp at Y|cons v vs=>exact⟨v,vs,rfl⟩
  simp only[AI,Gn]at Y;have hn':∀x,AS.ow x∉ls:=fun x Q=>hn x (Aq _ Q)
  obtain⟨v0,hv0,hroot,hnone⟩:=hok 0 l rfl;simp only[AM,AD]at hv0;subst hv0;have step:∀(r:B0) (_:l.Bm=some r) (y:T) (S0:Blk) (S1 S2:St) (g1:Gh) (B:List T),IU F S S1 g g1 a w->B1 S r->(∀b,S0 b->g.fp r b)->(∀b,S0 b->B1 S1 r->¬g1.fp r b)->(∀l'∈ls,∀v',(∀H,l'.Bm=some H->B1 S H->Bc F S g w (fun _=>False) l' v')->(l'.Bm=none->Bc F S g w (fun _=>False) l' v') ->
   (∀H,l'.Bm=some H->B1 S1 H->Bc F S1 g1 w (fun _=>False) l' v')/\(l'.Bm=none->Bc F S1 g1 w (fun _=>False) l' v'))->Own w y v S0->DI S1 ls=some (S2,B) ->
   ∃g2,IU F S S2 g g2 a w/\∃nf:Nat->Blk,AJV F S2 g2 w (y::B) (v::vs) nf/\∀c b,c<(y::B).length->nf c b->∃l' r,(l::ls)[c]?=some l'/\l'.Bm=some r/\B1 S r/\g.fp r b:=by
   intro r hlr y S0 S1 S2 g1 B hT1 J hS0 hdis hleaf hO L;obtain⟨g2,hT2,nf,hT,hnf⟩:=ih (S:=S1) (S':=S2) (g:=g1) (cs:=B) (vs:=vs) hT1.inv hn' Y (by
    intro c l' X;obtain⟨v',hv',hk1,hk2⟩:=hok (c+1) l' (by simpa using X);have:=hleaf l' (Ai X) v' hk1 hk2;exact⟨v',by simpa using hv',this.1,this.2⟩) L
   obtain⟨t1,t2,t3,t4,t5,t6⟩:=hT;have hTT:=hT1.trans hT2;have hS0':∀H b,B1 S2 H->S0 b->¬g2.fp H b:=by
    intro H b I E Z;have hb1:=hT2.fp H b Z;have hal1:=hT2.al H I;by_cases hrr:H=r
    .subst hrr;exact hdis b E hal1 hb1
    .exact h.dis r H J (hT1.al H hal1) (Ne.symm hrr) b (hS0 b E) (hT1.fp H b hb1)
   refine⟨g2,hTT,fun c=>match c with|0=>S0|c+1=>nf c,⟨by simpa using t1,?_,?_,?_,?_,?_⟩,?_⟩
   .intro c y' hy';cases c with|zero=>simp only[AM,AD]at hy';subst hy';exact⟨v,rfl,hO⟩|succ c=>exact t2 c y' (by simpa using hy')
   .intro c b O E;cases c with|zero=>exact h.Gu r J b (hS0 b E)|succ c=>exact t3 c b (by simpa using O) E
   .intro c H b O I E;cases c with|zero=>exact hS0' H b I E|succ c=>exact t4 c H b (by simpa using O) I E
   .intro c id O hid E;cases c with|zero=>rw[hTT.β]at E;exact h.E7 r id J (hTT.bx id hid) (hS0 _ E)|succ c=>exact t5 c id (by simpa using O) hid E
   .have hcross:∀c b,c<B.length->S0 b->¬nf c b:=by
     intro c b O E Z;obtain⟨_,H,_,_,I,hf⟩:=hnf c b O Z;by_cases hrr:H=r
     .subst hrr;exact hdis b E I hf
     .exact h.dis r H J (hT1.al H I) (Ne.symm hrr) b (hS0 b E) (hT1.fp H b hf)
    intro c c' b O hc' hne E;cases c with
    |zero=>
     cases c' with
     |zero=>exact(hne rfl).elim|succ c'=>exact hcross c' b (by simpa using hc') E
    |succ c=>
     cases c' with
     |zero=>exact fun Z=>hcross c b (by simpa using O) Z E|succ c'=>exact t6 c c' b (by simpa using O) (by simpa using hc') (by omega) E
   .intro c b O E;cases c with
    |zero=>exact⟨l,r,rfl,hlr,J,hS0 b E⟩|succ c=>
     obtain⟨l',H,X,hlr',I,hf⟩:=hnf c b (by simpa using O) E;exact⟨l',H,by simpa using X,hlr',hT1.al H I,hT1.fp H b hf⟩
  have stepO:∀(r:B0) (_:l.Bm=some r) (x y:T) (S0:Blk) (S1:St) (B:List T),S.at r=some (.ow x)->(∀b,S0 b->g.fp r b)->Own w y v S0->DI (S.out r) ls=some (S1,B) ->
   ∃g2,IU F S S1 g g2 a w/\∃nf:Nat->Blk,AJV F S1 g2 w (y::B) (v::vs) nf/\∀c b,c<(y::B).length->nf c b->∃l' r,(l::ls)[c]?=some l'/\l'.Bm=some r/\B1 S r/\g.fp r b:=by
   intro r hlr x y S0 S1 B Q hS0 hO L;refine step r hlr y S0 (S.out r) S1 g B (nP h Q).toG ⟨x,Q⟩ hS0 (fun b _ J=>absurd rfl (Iy Q J).1) ?_ hO L;intro l' _ v' hk1 hk2;refine⟨?_,fun hr=>(hk2 hr).out Q (by simp[hr])⟩;intro H I J;have:=Iy Q J;exact(hk1 H I this.2).out Q (by rw[I];simpa using this.1)
  cases l with
  |t x=>
   simp only[DI]at G;split at G
   .cases G
   .rename_i htop;split at G
    .rename_i S1 B L;simp only[AD,Au]at G;obtain⟨rfl,rfl⟩:=G;obtain⟨g1,htaken,nf,hT,hnf⟩:=ih (S:=S) (S':=S1) (g:=g) (cs:=B) (vs:=vs) h hn' Y (by
      intro c l' X;obtain⟨v',hv',hk⟩:=hok (c+1) l' (by simpa using X);exact⟨v',by simpa using hv',hk⟩) L
     obtain⟨t1,t2,t3,t4,t5,t6⟩:=hT;have hsc:Sc x v:=hnone rfl;refine⟨g1,htaken,fun c=>match c with|0=>fun _=>False|c+1=>nf c,⟨by simpa using t1,?_,?_,?_,?_,?_⟩,?_⟩
     .intro c y' hy';cases c with|zero=>simp only[AM,AD]at hy';subst hy';exact⟨v,rfl,.sc hsc (hsc.one (by simpa using htop)) fun _ h=>h⟩|succ c=>exact t2 c y' (by simpa using hy')
     .intro c b O E;cases c with|zero=>exact E.elim|succ c=>exact t3 c b (by simpa using O) E
     .intro c H b O I E;cases c with|zero=>exact E.elim|succ c=>exact t4 c H b (by simpa using O) I E
     .intro c id O hid E;cases c with|zero=>exact E.elim|succ c=>exact t5 c id (by simpa using O) hid E
     .intro c c' b O hc' hne E;cases c with
      |zero=>exact E.elim|succ c=>
       cases c' with
       |zero=>exact fun Z=>Z.elim|succ c'=>exact t6 c c' b (by simpa using O) (by simpa using hc') (by omega) E
     .intro c b O E;cases c with|zero=>exact E.elim|succ c=>exact hnf c b (by simpa using O) E
    .cases G
  |al r sub=>
   simp only[DI]at G;split at G
   .rename_i x Q;split at G
    .rename_i S1 B L;simp only[AD,Au]at G;obtain⟨rfl,rfl⟩:=G;obtain⟨x',u,hx',hu,hsub⟩:=hroot r rfl ⟨x,Q⟩;rw[Q]at hx';cases hx';have hown:Own w x u (g.fp r):=by
      obtain⟨u',hu',hk⟩:=h.Cg r _ Q;rw[hu]at hu';cases hu';exact hk
     obtain⟨S0,hS0,hO⟩:=Q5 hown hsub;exact stepO r rfl x _ S0 S1 B Q hS0 hO L
    .cases G
   .cases G
  |vw s e xs=>
   cases s with
   |old k=>simp[DI]at G|own r p=>
    cases p with
    |none=>
     simp only[DI]at G;split at G
     .rename_i x Q;split at G
      .rename_i S1 B L;simp only[AD,Au]at G;obtain⟨rfl,rfl⟩:=G;obtain⟨_,⟨S0,hS0,hO⟩,_⟩:=hroot r rfl ⟨x,Q⟩;exact stepO r rfl x _ S0 S1 B Q hS0 hO L
      .cases G
     .cases G
    |some q=>
     obtain⟨i,j⟩:=q;simp only[DI]at G;split at G
     .cases G
     .rename_i hon;split at G
      .rename_i S1 hpl;split at G
       .rename_i S2 B L;simp only[AD,Au]at G;obtain⟨rfl,rfl⟩:=G;obtain⟨e0,rows,Q,_⟩:=N4 hpl;obtain⟨_,_,hat⟩:=hroot r rfl ⟨_,Q⟩;obtain⟨S0,g1,q1,q2,q3,q4,q5,q6,q7⟩:=h.pull hpl hat;refine step r rfl _ S0 S1 S2 g1 B q1 q7 q3 (fun b E _=>q4 b E) ?_ q2 L;intro l' X v' hk1 hk2;have hne:=sP (by simpa using hon) l' X;exact⟨fun H I J=>(hk1 H I (q1.al H J)).off hne q6 q5 q1.rv q1.β,fun hr=>(hk2 hr).off hne q6 q5 q1.rv q1.β⟩
       .cases G
      .cases G
  |ow x=>exact(hn x (by simp)).elim|und=>simp[DI]at G|ep _ _ _=>simp[DI]at G|vp s cs=>simp[DI]at G|bp _ _=>simp[DI]at G|fn _ _=>simp[DI]at G
end
end Lv
