/- The light machine is right about the program's code. -/
import GoSem.Core.Value
import GoSem.Core.Ast
import GoSem.Core.View
import Derived.Calls
import Derived.Laws.CopyRow
import Derived.Laws.IdiomCopy
import GoSem.Dispatch
import Derived.Orders
set_option linter.unusedVariables false
set_option linter.unusedSimpArgs false
set_option linter.unusedSectionVars false
open Array renaming getD_eq_getD_getElem?->El,getElem?_eq_some_iff->BB,getElem?_modify->Fz,getElem?_push->Gk
open Bool renaming and_eq_false_iff->Iq,and_eq_true->AF,and_true->Cd,or_eq_true->Cx
open List renaming append_assoc->CR,getElem?_append->JF,getElem?_cons_zero->AP,getElem?_eq_some_iff->AS,getElem?_of_mem->Bo,getElem?_set->D5,length_cons->AH,length_nil->AN,mem_cons_of_mem->A3,mem_of_getElem?->Ar
open Nat renaming add_right_cancel_iff->Hj,add_zero->DD,le_refl->Af,lt_irrefl->JS,lt_of_lt_of_le->BY,ne_of_lt->Ou
open Option renaming isSome_iff_exists->Bs,isSome_map->KT,map_eq_some_iff->AQ
open Option.some renaming injEq->AE
open Prod.mk renaming injEq->A5
@[reducible] def AA.{u} (α:Type u):=Option α
namespace Lv
open Go (IntKind BinOp UnOp)
inductive T where
 |top|un|int(k:IntKind)(n:Int)|bool(b:Bool)|str(s:List UInt8)|nil|np|sl(e:Nat)(xs:List (List T))|mp(ks:List (Int×Int))
inductive CV where
 |tmp(s c:Nat)|cell(b c:Nat)
 deriving DecidableEq
inductive Src where
 |own(r:CV)(p:Option (Nat×Nat))|old(k:Nat)
 deriving DecidableEq
inductive Md where
 |v|p|b|o|m
 deriving DecidableEq
inductive Sh where
 |one|agg|tup(ns:List (Option Nat))|ptr(k:Nat)|vw(k:Nat)
inductive Kd where
 |i|b|s
 deriving DecidableEq
inductive Cls where
 |num|bool|sl|agg(ks:List Kd)
 deriving DecidableEq
mutual
inductive Opd where
 |tmp(t:Nat)|k(x:T)|fn(f:Aq)
inductive XOp where
 |mv(d:Nat)(x:Opd)|as(d:Nat)(x:Opd)|pick(d:Nat)(c a b:Opd)|alloc(d:Nat)(zs:List T)|box(d:Nat)(x:Opd)|build(d:Nat)(zs:List T)(parts:List (Nat×Nat×Opd))|B7(d:Nat)(n:Nat)(zs:List T)(parts:List (Nat×Opd))|ld(d:Nat)(n:Option Nat)(x:Opd)|st(n:Nat)(x v:Opd)|chk(d:Nat)(x:Opd)|bin(d:Nat)(c:Cls)(op:BinOp)(x y:Opd)|un(d:Nat)(op:UnOp)(x:Opd)|cvI(d:Nat)(k:IntKind)(x:Opd)|OB(d:Nat)(x:Opd)|Ru(d:Nat)(x:Opd)|PF(d:Nat)(f:Aq)(caps:List Opd)|Nt(d:Nat)(zs:List T)(n c:Opd)|sub(d:Nat)(e:Nat)(x:Opd)(lo hi:Option Opd)|dk(d:Nat)(x:Opd)(lo hi:Option Opd)|fa(d:Nat)(off:Nat)(x:Opd)|fld(d:Nat)(off:Nat)(n:Option Nat)(x:Opd)|ia(d:Nat)(e:Nat)(x i:Opd)|ix(d:Nat)(x i:Opd)|ext(d:Nat)(x:Opd)(i:Nat)|call(d:Nat)(f:Aq)(args:List Opd)|D1(d:Nat)(f:Opd)(ms:List Md)(args:List Opd)|len(d:Nat)(x:Opd)|lens(d:Nat)(x:Opd)|app(d:Nat)(e:Nat)(fl:Bool)(x y:Opd)|Wr(d:Nat)(zs:List T)(x n:Opd)|cpy(d:Nat)(e:Nat)(x y:Opd)|mm(d:Nat)(isMax:Bool)(x y:Opd)|mmk(d:Nat)|bF(d:Nat)(x k:Opd)|Zg(x k v:Opd)|bG(d:Nat)(x:Opd)|bad(d:Option Nat)|drop(ds:List Nat)|Zk(ns:List (CV×Nat))
inductive Wi where
 |nil|op(i:Nat)(g:Option (Nat×Bool))(sf:List Nat)(o:XOp)(rest:Wi)|dr(ds:List Nat)(rest:Wi)|nl(ns:List (CV×Nat))(rest:Wi)|both(a b:Wi)
inductive Pl where
 |skip|region(ops:List (Option (Nat×Bool)×XOp))(Fo:List Nat)|RD(r:Wi)(Fo:List Nat)|seq(a b:Pl)|cond(c:Nat)(kt ke:List Nat)(t e:Pl)|block(id:Nat)(b:Pl)|loop(b:Pl)|exit(id:Nat)|ret|scope(b:Pl)|or(a b:Pl)|dead
inductive G6 where
 |tmp(t:Nat)|cell(t:Nat)(n:Option Nat)|bx(t:Nat)|vw(t k:Nat)|un(t n:Nat)
inductive Aq where
 |mk(ms:List Md)(rs:List G6)(body:Pl)|Dw(id:Nat)(ms:List Md)
end
end Lv
namespace Lv
open Go (IntKind BinOp UnOp)
inductive AU where
 |t(x:T)|und|ow(x:T)|al(r:CV)(sub:Option (Nat×Nat))|ep(r:CV)(i j:Nat)|vw(s:Src)(e:Nat)(xs:List (List T))|vp(s:Src)(cs:List T)|bp(id off:Nat)|fn(f:Aq)(caps:List AU)
structure Ent where
 sh:Sh
 cs:List AU
structure St where
 tm:List (Nat×Ent)
 bx:List (Nat×List AU)
 pin:List Nat:=[]
inductive V where
 |v(sh:Sh)(cs:List T)|f(xf:Aq)(caps:List V)|p(cs:List T)|b(cs:List T)|o(sh:Sh)(cs:List T)|m(sh:Sh)(cs:List T)
abbrev Rel:=Aq->List V->Sh->List T->List (List T)->Prop
def get{α:Type}:List (Nat×α)->Nat->Option α| [],_=>none|(k,a)::r,s=>if k=s then some a else get r s
def put{α:Type}:List (Nat×α)->Nat->α->List (Nat×α)| [],s,a=>[(s,a)]|(k,b)::r,s,a=>if s=k then (s,a)::r else if s<k then (s,a)::(k,b)::r else (k,b)::put r s a
def Gw{α:Type}(ks:List Nat):List (Nat×α)->List (Nat×α)| []=>[]|(k,b)::r=>if k∈ks then (k,b)::Gw ks r else Gw ks r
def AU.CA:AU->Option CV|.al r _|.ep r _ _|.vw (.own r _) _ _|.vp (.own r _) _=>some r|_=>none
def AU.NW:AU->Option Nat|.bp id _=>some id|.al (.cell id _) _|.ep (.cell id _) _ _|.vw (.own (.cell id _) _) _ _|.vp (.own (.cell id _) _) _=>some id|_=>none
def AU.plain:AU->Bool|.t _|.und|.vw (.old _) _ _|.vp (.old _) _|.bp _ _=>true|_=>false
def EU(q:AU->Bool):List AU->List AU| []=>[]|l::ls=>(if q l then .t .top else l)::EU q ls
def MZ(q:AU->Bool):List (Nat×Ent)->List (Nat×Ent)| []=>[]|(k,e)::r=>(k,⟨e.sh,EU q e.cs⟩)::MZ q r
def MY(q:AU->Bool):List (Nat×List AU)->List (Nat×List AU)| []=>[]|(k,e)::r=>(k,EU q e)::MY q r
def St.kill(S:St)(q:AU->Bool):St:={ S with tm:=MZ q S.tm,bx:=MY q S.bx}
def Oj(r:CV)(l:AU):Bool:=l.CA=some r
def Fa(r:CV):AU->Bool|.vw (.own r' _) _ _|.vp (.own r' _) _=>r'=r|_=>false
def E4(d:Nat)(l:AU):Bool:=match l.CA with|some (.tmp s _)=>s=d|_=>false
def Fp(d:Nat):AU->Bool|.fn _ caps=>caps.any fun l=>decide (l.NW=some d)|l=>decide (l.NW=some d)
def M8(ks:List Nat):AU->Bool
 |.fn _ caps=>caps.any fun l=>match l.NW with|some d=>decide (d∉ks)|none=>false
 |l=>match l.NW with|some d=>decide (d∉ks)|none=>false
def JJ(ks:List Nat)(l:AU):Bool:=
 (match l.CA with|some (.tmp s _)=>decide (s∉ks)|_=>false)||M8 ks l
def KX{α:Type}(ks:List Nat):List (Nat×α)->List (Nat×α)| []=>[]|(k,b)::r=>if k∈ks then KX ks r else (k,b)::KX ks r
def lk(ks:List Nat)(l:AU):Bool:=match l.CA with|some (.tmp s _)=>decide (s∈ks)|_=>false
def St.Iw(S:St)(ks:List Nat):St:={ S with tm:=MZ (lk ks) (KX ks S.tm),bx:=MY (lk ks) S.bx}
def St.clean(S:St)(ks:List Nat):St:={ S with tm:=MZ (JJ ks) (Gw ks S.tm),bx:=MY (JJ ks) (Gw ks S.bx)}
def St.at(S:St):CV->Option AU
 |.tmp s c=>match get S.tm s with|some e=>e.cs[c]?|none=>none
 |.cell b c=>match get S.bx b with|some ls=>ls[c]?|none=>none
def St.B3(S:St)(r:CV)(l:AU):St:=
 match r with
 |.tmp s c=>match get S.tm s with|some e=>{ S with tm:=put S.tm s ⟨e.sh,e.cs.set c l⟩}|none=>S
 |.cell b c=>match get S.bx b with|some ls=>{ S with bx:=put S.bx b (ls.set c l)}|none=>S
def St.nl0(S:St)(r:CV)(e:Nat):AU:=match r with|.cell id _=>(if id∈S.pin then .vw (.old id) e [] else .ow (.sl e []))|.tmp _ _=>.ow (.sl e [])
def St.AAJ(S:St)(r:CV)(e:Nat):St:=match S.at r with|some (.t .nil)=>S.B3 r (S.nl0 r e)|_=>S
def St.Vv(S:St):List (CV×Nat)->St| []=>S|(r,e)::ns=>St.Vv (S.AAJ r e) ns
def content:T->Option (List (List T))|.nil=>some []|.sl _ xs=>some xs|_=>none
def KQ(sub:Option (Nat×Nat))(xs:List (List T)):List (List T):=
 match sub with
 |none=>xs|some (lo,n)=>(xs.drop lo).take n
def AAR(sub:Option (Nat×Nat)):T->T|.sl e xs=>.sl e (KQ sub xs)|x=>x
def St.elems(S:St):AU->Option (List (List T))
 |.al r sub=>match S.at r with|some (.ow x)=>(content x).map (KQ sub)|_=>none
 |.vw _ _ xs=>some xs|.t .nil=>some []|_=>none
def AU.ali(s c:Nat):AU->AU|.ow _=>.al (.tmp s c) none|l=>l
def Wq(s:Nat):Nat->List AU->List AU|_,[]=>[]|c,l::ls=>l.ali s c::Wq s (c+1) ls
def ACa:T->AU|.sl e xs=>.vw (.old 0) e xs|x=>.t x
def St.rd(S:St):Opd->Option Ent
 |.tmp s=>match get S.tm s with|some e=>some ⟨e.sh,Wq s 0 e.cs⟩|none=>none
 |.k x=>some ⟨.one,[ACa x]⟩|.fn f=>some ⟨.one,[.fn f []]⟩
def St.rds(S:St):List Opd->Option (List Ent)
 | []=>some []|x::xs=>match S.rd x,S.rds xs with|some e,some es=>some (e::es)|_,_=>none
def St.ED(S:St)(d:Nat)(e:Ent):Option St:=
 if d∈S.pin then none else match get S.tm d with
  |none=>some { S with tm:=put S.tm d e}
  |some _=>some { S with tm:=put (MZ (E4 d) S.tm) d ⟨e.sh,EU (E4 d) e.cs⟩,bx:=MY (E4 d) S.bx}
def names:AU->List Nat
 |.bp id _=>[id]|.fn _ caps=>caps.filterMap fun l=>match l with|.bp id _=>some id|_=>none
 |_=>[]
def Zw(l l':AU):Bool:=
 (match l.CA with|some r=>decide (l'.CA=some r)|none=>false)||(names l).any (fun id=>Fp id l')||(names l').any (fun id=>Fp id l)
def V9(l l':AU):Bool:=
 (match l.CA with|some r=>decide (l'.CA=some r)|none=>false)||(names l).any (fun id=>Fp id l')
def AE5:AU->Bool|.al _ _=>true|_=>false
def Q8:List AU->Bool| []=>true|l::ls=>(ls.all fun l'=>!((AE5 l||AE5 l')&&decide (l.CA=l'.CA)))&&Q8 ls
def St.out(S:St)(r:CV):St:=(S.B3 r (.t .top)).kill (Oj r)
def Kf:St->List AU->Option (St×List AU)
 |S,[]=>some (S,[])|S,l::ls=>match l with
  |.al r sub=>match S.at r with
   |some (.ow x)=>match Kf (S.out r) ls with|some (S',ls')=>some (S',.ow (AAR sub x)::ls')|none=>none
   |_=>none
  |l=>match Kf S ls with|some (S',ls')=>some (S',l::ls')|none=>none
def Mf(S:St)(ls:List AU):Option (St×List AU):=if Q8 ls=true then Kf S ls else none
def ADe(S:St)(x:Opd)(ls:List AU):Option (St×List AU):=match x with|.tmp s=>if s∈S.pin then some (S,ls) else Mf S ls|_=>Mf S ls
def Wd:T->Bool|.top=>true|_=>false
def lu:T->Bool|.top=>true|.un=>true|_=>false
def at2(xs:List (List T))(i j:Nat):Option T:=match xs[i]? with|some row=>row[j]?|none=>none
def Src.up:Src->Src|.own r _=>.own r none|s=>s
def Ju(rows:List (List T))(i j:Nat)(x:T):List (List T):=rows.set i ((rows.getD i []).set j x)
def St.pull(S:St)(r:CV)(i j:Nat):Option St:=
 match S.at r with
 |some (.ow (.sl e rows))=>some ((S.B3 r (.ow (.sl e (Ju rows i j .top)))).kill (Fa r))|_=>none
def onR(r:CV):List AU->Bool| []=>false|l::ls=>decide (l.CA=some r)||onR r ls
def Dm:St->List AU->Option (St×List T)
 |S,[]=>some (S,[])|S,l::ls=>match l with
  |.t x=>if Wd x=true then none else match Dm S ls with|some (S',cs)=>some (S',x::cs)|none=>none
  |.al r sub=>match S.at r with
   |some (.ow x)=>match Dm (S.out r) ls with|some (S',cs)=>some (S',AAR sub x::cs)|none=>none
   |_=>none
  |.vw (.own r p) e xs=>match p with
   |none=>match S.at r with
    |some (.ow _)=>match Dm (S.out r) ls with|some (S',cs)=>some (S',.sl e xs::cs)|none=>none
    |_=>none
   |some (i,j)=>if onR r ls=true then none else match S.pull r i j with
    |some S1=>match Dm S1 ls with|some (S',cs)=>some (S',.sl e xs::cs)|none=>none
    |none=>none
  |_=>none
def St.Ho(S:St):AU->Option T
 |.t x=>some x|.al r sub=>match S.at r with|some (.ow x)=>some (AAR sub x)|_=>none
 |.vw _ e xs=>some (.sl e xs)|.ow x=>some x|_=>none
def St.Hh(S:St):List AU->Option (List T)
 | []=>some []|l::ls=>match S.Ho l,S.Hh ls with|some x,some xs=>some (x::xs)|_,_=>none
def TU(k:Nat):AU->Option T|.t x=>some x|.vw (.old k') e xs=>if k'=k then some (.sl e xs) else none|_=>none
def Fi(k:Nat):List AU->Option (List T)
 | []=>some []|l::ls=>match TU k l,Fi k ls with|some x,some xs=>some (x::xs)|_,_=>none
def DY:List AU->Nat| []=>0|.vw (.old k) _ _::_=>k|_::ls=>DY ls
def ER(k:Nat):T->AU|.sl e xs=>.vw (.old k) e xs|.mp _=>.t .top|x=>.t x
def Kb:T->AU|.sl e xs=>.ow (.sl e xs)|.mp ks=>.ow (.mp ks)|.nil=>.ow .nil|x=>.t x
def Lu(s:Src):T->AU|.sl e xs=>.vw s e xs|.mp _=>.t .top|x=>.t x
def Rh:List AU->Bool| []=>true|l::ls=>l.CA.isNone&&Rh ls
def AUm(S:St):AU->Option V
 |.t x=>some (.v .one [x])|.vw (.old _) e xs=>some (.v .one [.sl e xs])|.bp id off=>match get S.bx id with|some ls=>if Rh ls=true then (S.Hh (ls.drop off)).map .p else none|none=>none
 |.vp (.old _) cs=>some (.p cs)|_=>none
def pb(S:St):List AU->Option (List V)
 | []=>some []|l::ls=>match AUm S l,pb S ls with|some x,some xs=>some (x::xs)|_,_=>none
def GV:Sh->Nat->Bool|.one,n=>n==1|.agg,_=>true|_,_=>false
def V2:AU->Bool|.t _|.al _ none|.vw (.own _ (some _)) _ _=>true|_=>false
def Hk:St->List AU->List T->Option St
 |S,[],[]=>some S|S,l::ls,o::os=>match l with
  |.al r none=>Hk (S.B3 r (.ow o)) ls os|.vw (.own r (some (i,j))) _ _=>match S.at r with|some (.ow (.sl e rows))=>Hk ((S.B3 r (.ow (.sl e (Ju rows i j o)))).kill (Fa r)) ls os|_=>none
  |.t _=>Hk S ls os|_=>none
 |_,_,_=>none
def Ws(S:St)(md:Md)(e:Ent):Option V:=
 match md with
 |.v=>match e with
  |⟨.one,[.fn f caps]⟩=>match pb S caps with|some cs=>some (.f f cs)|none=>none
  |e=>match S.Hh e.cs with|some cs=>some (.v e.sh cs)|none=>none
 |.p=>match e with
  |⟨.one,[.bp id off]⟩=>match get S.bx id with
   |some ls=>if Rh ls=true then match S.Hh (ls.drop off) with|some cs=>some (.p cs)|none=>none else none
   |none=>none
  |⟨.one,[.vp _ cs]⟩=>some (.p cs)|_=>none
 |.b=>match e with
  |⟨.one,[.bp id 0]⟩=>match get S.bx id with
   |some ls=>match Fi (DY ls) ls with|some cs=>some (.b cs)|none=>none
   |none=>none
  |_=>none
 |_=>none
def Md.E7:Md->Bool|.o|.m=>true|_=>false
def Hn:List Md->List Ent->List AU|md::ms,e::es=>(if md.E7=true then e.cs else [])++Hn ms es|_,_=>[]
def Jm(S:St):List Md->List Ent->List T->Option (List V)
 | [],[],_=>some []|md::ms,e::es,cs=>match md with
  |.o=>match Jm S ms es (cs.drop e.cs.length) with|some vs=>some (.o e.sh (cs.take e.cs.length)::vs)|none=>none
  |.m=>if e.cs.all V2=true/\GV e.sh e.cs.length=true then match Jm S ms es (cs.drop e.cs.length) with|some vs=>some (.m e.sh (cs.take e.cs.length)::vs)|none=>none else none
  |md=>match Ws S md e,Jm S ms es cs with|some v,some vs=>some (v::vs)|_,_=>none
 |_,_,_=>none
def Em:St->List Md->List Ent->St
 |S,md::ms,e::es=>match md with
  |.b=>match e with
   |⟨.one,[.bp id 0]⟩=>match get S.bx id with
    |some ls=>Em { S with bx:=put S.bx id (ls.map fun _=>.t .top)} ms es
    |none=>Em S ms es
   |_=>Em S ms es
  |_=>Em S ms es
 |S,_,_=>S
def dx(S:St)(ms:List Md)(es:List Ent):Option (St×List V):=
 match Dm S (Hn ms es) with
 |some (S1,cs)=>match Jm S ms es cs with|some vs=>some (Em S1 ms es,vs)|none=>none
 |none=>none
def Fh(S0:St):St->List Md->List Ent->List (List T)->Option St
 |S,[],_,[]=>some S|S,md::ms,e::es,outs=>match md with
  |.b=>match e,outs with
   |⟨.one,[.bp id 0]⟩,o::outs=>match get S0.bx id,get S.bx id with
    |some ls,some ls1=>if o.length=ls1.length then Fh S0 { S with bx:=put S.bx id (o.map (ER (DY ls)))} ms es outs else none
    |_,_=>none
   |_,_=>none
  |.m=>match outs with
   |o::outs=>match Hk S e.cs o with|some S'=>Fh S0 S' ms es outs|none=>none
   |_=>none
  |_=>Fh S0 S ms es outs
 |_,_,_,_=>none
def Md.writes:Md->Bool|.v|.p=>false|_=>true
def shares(e e':Ent):Bool:=e.cs.any fun l=>e'.cs.any fun l'=>Zw l l'
def TY:List Ent->List Md->List Ent->Bool|prev,md::ms,e::es=>(md.writes&&(prev.any (shares e)||es.any (shares e)))||TY (e::prev) ms es|_,_,_=>false
def Ek:Aq->List Md|.mk ms _ _=>ms|.Dw _ ms=>ms
def AhH(sh:Sh)(cs:List T):Ent:=⟨sh,cs.map Kb⟩
def lim:Nat:=268435456
def APa:Option Ent->Option T|some ⟨.one,[.t x]⟩=>some x|_=>none
def St.sc(S:St)(x:Opd):Option T:=APa (S.rd x)
def St.nat(S:St)(x:Opd):Option Int:=match S.sc x with|some (.int _ n)=>some n|_=>none
def St.AaS(S:St)(d:Int):Option Opd->Option Int|none=>some d|some o=>S.nat o
def St.one(S:St)(x:Opd):Option AU:=match S.rd x with|some ⟨.one,[l]⟩=>some l|_=>none
def On:Nat:=4611686018427387904
def eqT:Kd->T->T->Option Bool|.i,.int k a,.int k' b=>if k=k' then some (a==b) else none|.b,.bool a,.bool b=>some (a==b)|.s,.str a,.str b=>some (a==b)|_,_,_=>none
def Wj:List Kd->List T->List T->Option Bool
 | [],[],[]=>some true|k::ks,a::as,b::bs=>match eqT k a b,Wj ks as bs with|some x,some y=>some (x&&y)|_,_=>none
 |_,_,_=>none
def dp:List AU->Option (List T)| []=>some []|.t x::ls=>(dp ls).map (x::·)|_=>none
def nd(op:BinOp)(k:IntKind)(a b:Int):Option T:=
 match op with
 |.add=>some (.int k (k.wrap (a+b)))|.sub=>some (.int k (k.wrap (a-b)))|.mul=>some (.int k (k.wrap (a*b)))|.quo=>if b=0 then none else some (.int k (k.wrap (a.tdiv b)))|.rem=>if b=0 then none else some (.int k (a.tmod b))|.and=>some (.int k (k.wrap (BitVec.ofInt k.bits a &&& BitVec.ofInt k.bits b).toNat))|.or=>some (.int k (k.wrap (BitVec.ofInt k.bits a |||BitVec.ofInt k.bits b).toNat))|.xor=>some (.int k (k.wrap (BitVec.ofInt k.bits a ^^^ BitVec.ofInt k.bits b).toNat))|.eql=>some (.bool (a==b))|.neq=>some (.bool (a != b))|.lss=>some (.bool (decide (a<b)))|.leq=>some (.bool (decide (a<=b)))|.gtr=>some (.bool (decide (a>b)))|.geq=>some (.bool (decide (a>=b)))|_=>none
def APb(op:BinOp)(k:IntKind)(a b:Int):Option T:=
 if b<0 then none else
 match op with
 |.shl=>some (.int k (k.wrap (a*2 ^ (min b.toNat k.bits))))|.shr=>some (.int k (a.fdiv (2 ^ (min b.toNat k.bits))))|_=>none
def AUi(op:BinOp):T->T->Option T
 |.int k a,.int k' b=>match op with|.shl|.shr=>APb op k a b|_=>if k=k' then nd op k a b else none
 |.str a,.str b=>match op with|.add=>if a.length+b.length<=On then some (.str (a++b)) else none|.eql=>some (.bool (a==b))|.neq=>some (.bool (a != b))|_=>none
 |.bool a,.bool b=>match op with|.eql=>some (.bool (a==b))|.neq=>some (.bool (a != b))|_=>none
 |_,_=>none
def St.dR(S:St):AU->Option Bool
 |.t .nil=>some true|.vw _ _ (_::_)=>some false|.al r none=>match S.at r with|some (.ow .nil)=>some true|some (.ow (.sl _ (_::_)))=>some false|_=>none
 |_=>none
def AAB(op:BinOp)(b:Bool):Option T:=match op with|.eql=>some (.bool b)|.neq=>some (.bool !b)|_=>none
def pX(op:BinOp):T->T->Option T|.int k a,.int k' b=>AUi op (.int k a) (.int k' b)|.str a,.str b=>AUi op (.str a) (.str b)|_,_=>none
def St.bin(S:St)(c:Cls)(op:BinOp)(x y:Ent):Option T:=
 match c with
 |.num=>match x,y with|⟨.one,[.t a]⟩,⟨.one,[.t b]⟩=>pX op a b|_,_=>none
 |.bool=>match x,y with|⟨.one,[.t (.bool a)]⟩,⟨.one,[.t (.bool b)]⟩=>AAB op (a==b)|_,_=>none
 |.sl=>match x,y with
  |⟨.one,[l]⟩,⟨.one,[.t .nil]⟩=>match S.dR l with|some b=>AAB op b|none=>none
  |_,_=>none
 |.agg ks=>match x,y with
  |⟨.agg,as⟩,⟨.agg,bs⟩=>match dp as,dp bs with
   |some as,some bs=>match Wj ks as bs with|some b=>AAB op b|none=>none
   |_,_=>none
  |_,_=>none
def unT(op:UnOp):T->Option T
 |.bool b=>match op with|.not=>some (.bool !b)|_=>none
 |.int k n=>match op with|.neg=>some (.int k (k.wrap (0-n)))|_=>none
 |_=>none
def Kq(s:List UInt8):List (List T):=s.map fun b=>[.int .u8 b.toNat]
def byteOf:List T->Option UInt8| [.int .u8 n]=>some (UInt8.ofNat n.toNat)|_=>none
def bytesOf:List (List T)->Option (List UInt8)
 | []=>some []|x::xs=>match byteOf x,bytesOf xs with|some b,some bs=>some (b::bs)|_,_=>none
def flat:T->Bool|.sl _ _=>false|.top=>false|.mp _=>false|_=>true
def G5(xs:List (List T)):Bool:=xs.all (·.all flat)
def AUh(e:Nat)(x:T)(ys:List (List T)):T:=match x with|.sl e xs=>.sl e (xs++ys)|_=>.sl e ys
def eOf(e:Nat):T->Bool|.sl e' _=>e'==e|_=>true
def TM(e:Nat)(fl:Bool)(S:St)(l:AU):Option (St×List (List T)):=
 match l with
 |.t (.str s)=>if e=1 then some (S,Kq s) else none|.t .nil=>some (S,[])|.vw _ e' xs=>if e'=e/\G5 xs=true then some (S,xs) else none|.al r sub=>match S.at r with
  |some (.ow x)=>match content x with|some xs=>if eOf e x=true then (if fl=true then (if G5 (KQ sub xs)=true then some (S,KQ sub xs) else none) else some (S.out r,KQ sub xs)) else none|none=>none
  |_=>none
 |_=>none
def toEnd(sub:Option (Nat×Nat))(len:Nat):Bool:=match sub with|none=>true|some (lo,n)=>lo+n==len
def WQ(e:Nat)(S:St)(l:AU):Option (St×T×Nat):=
 match l with
 |.t .nil=>some (S,.nil,0)|.al r sub=>match S.at r with
  |some (.ow x)=>match content x with|some xs=>if eOf e x=true/\toEnd sub xs.length=true then some (S.out r,AAR sub x,(KQ sub xs).length) else none|none=>none
  |_=>none
 |.vw (.own r (some (i,j))) e' xs=>if e'=e then match S.pull r i j with|some S'=>some (S',.sl e xs,xs.length)|none=>none else none
 |_=>none
def Ok(off:Nat):AU->Option AU|.bp id o=>some (.bp id (o+off))|.ep r i j=>some (.ep r i (j+off))|.vp s cs=>some (.vp s (cs.drop off))|_=>none
def KN(r:CV)(i:Nat):Nat->List T->List AU|_,[]=>[]|j,x::xs=>Lu (.own r (some (i,j))) x::KN r i (j+1) xs
def Uv(b:Nat):Nat->List AU->List AU|_,[]=>[]|c,.ow _::ls=>.al (.cell b c) none::Uv b (c+1) ls|c,l::ls=>l::Uv b (c+1) ls
def St.load(S:St)(n:Nat):AU->Option (List AU)
 |.bp id o=>match get S.bx id with|some ls=>if o+n<=ls.length then some (Uv id o ((ls.drop o).take n)) else none|none=>none
 |.ep r i j=>match S.at r with
  |some (.ow (.sl _ xs))=>match xs[i]? with|some cs=>if j+n<=cs.length then some (KN r i j ((cs.drop j).take n)) else none|none=>none
  |_=>none
 |.vp s cs=>if n<=cs.length then some ((cs.take n).map (Lu s.up)) else none|_=>none
def Dt{α:Type}:List α->Nat->List α->List α|ls,_,[]=>ls|ls,o,c::cs=>Dt (ls.set o c) (o+1) cs
def Im(b o n:Nat)(l:AU):Bool:=match l.CA with|some (.cell b' c)=>b'=b&&decide (o<=c)&&decide (c<o+n)|_=>false
def IX:List AU->Bool| []=>false|.t .top::_=>true|.und::_=>true|_::ls=>IX ls
def jo(n:Nat)(S:St)(ls:List AU):Option (St×List AU):=if n<1048576 then Mf S ls else some (S,ls)
def St.WG(S:St)(n:Nat)(p:AU)(cs:List AU):Option St:=
 match p with
 |.bp id o=>match jo n S cs with
  |some (S',cs')=>if IX cs'=true then none else
   let S2:=S'.kill (Im id o cs'.length)
   match get S2.bx id with
   |some ls=>if o+cs'.length<=ls.length then some { S2 with bx:=put S2.bx id (Dt ls o (EU (Im id o cs'.length) cs'))} else none
   |none=>none
  |none=>none
 |.ep r i j=>match Dm S cs with
  |some (S',ts)=>match S'.at r with
   |some (.ow (.sl e xs))=>match xs[i]? with|some row=>if j+ts.length<=row.length then some ((S'.B3 r (.ow (.sl e (xs.set i (Dt row j ts))))).kill (Fa r)) else none|none=>none
   |_=>none
  |none=>none
 |_=>none
def N9(S:St):List AU->List (Nat×Nat×Opd)->Option (List AU)
 |ls,[]=>some ls|ls,(o,n,x)::ps=>match S.rd x with|some e=>if e.cs.length=n/\GV e.sh n=true/\IX e.cs=false/\o+n<=ls.length then N9 S (Dt ls o e.cs) ps else none|none=>none
def rowsOf(n:Nat)(zs:List T):List (List T):=List.replicate n zs
def bsK(m n:Nat):St->List (List T)->List (Nat×Opd)->Option (St×List (List T))
 |S,xs,[]=>some (S,xs)|S,xs,(i,x)::ps=>match S.rd x with
  |some e=>if e.cs.length=m/\GV e.sh e.cs.length=true/\i<n then match Dm S e.cs with
   |some (S',cs)=>bsK m n S' (xs.set i cs) ps|none=>none
   else none
  |none=>none
def ALo:Sh->Bool|.one=>true|_=>false
def St.Wc:AU->Bool|.bp _ _|.ep _ _ _|.vp _ _=>true|_=>false
def Dn(n:Option Nat):Nat:=match n with|some k=>k|none=>1
def shN(n:Option Nat):Sh:=match n with|some _=>.agg|none=>.one
def bL:List (Option Nat)->Nat| []=>0|n::ns=>Dn n+bL ns
def St.range(S:St)(len:Nat)(lo hi:Option Opd):Option (Nat×Nat):=
 match S.AaS 0 lo,S.AaS len hi with
 |some a,some b=>if 0<=a/\a<=b/\b<=len then some (a.toNat,b.toNat) else none|_,_=>none
def St.wide(S:St)(e:Nat):AU->Bool
 |.vw _ e' _=>e'==e|.al r _=>match S.at r with|some (.ow x)=>eOf e x|_=>false
 |_=>true
def Oh:List (Int×Int)->Int->Int| [],_=>0|(k,v)::r,n=>if n=k then v else Oh r n
def KO:List (Int×Int)->Int->Int->List (Int×Int)| [],n,m=>[(n,m)]|(k,v)::r,n,m=>if n=k then (k,m)::r else (k,v)::KO r n m
def St.UG(S:St)(x:Opd):Option (CV×List (Int×Int)):=
 match S.one x with
 |some (.al r none)=>match S.at r with|some (.ow (.mp ks))=>some (r,ks)|_=>none
 |_=>none
def ev(o:XOp)(S:St):Option St:=
 match o with
 |.mv d x=>match S.rd x with|some e=>S.ED d e|none=>none
 |.as d x=>match S.rd x with
  |some e=>match Mf S e.cs with|some (S',cs)=>S'.ED d ⟨e.sh,cs⟩|none=>none
  |none=>none
 |.pick d c a b=>match S.sc c,S.rd a,S.rd b with|some (.bool t),some ea,some eb=>S.ED d (if t=true then ea else eb)|_,_,_=>none
 |.alloc d zs=>if d∈S.pin then none else
  let S':=S.kill (fun l=>E4 d l||Fp d l)
  some { S' with tm:=put S'.tm d ⟨.one,[.bp d 0]⟩,bx:=put S'.bx d (zs.map .t)}
 |.box d x=>match S.rd x with
  |some e=>match ADe S x e.cs with
   |some (S1,cs)=>if d∈S1.pin\/IX cs=true\/GV e.sh e.cs.length=false then none else
    let q:=fun l=>E4 d l||Fp d l
    let S':=S1.kill q
    some { S' with tm:=put S'.tm d ⟨.one,[.bp d 0]⟩,bx:=put S'.bx d (EU q cs)}
   |none=>none
  |none=>none
 |.build d zs parts=>match N9 S (zs.map .t) parts with|some ls=>S.ED d ⟨.agg,ls⟩|none=>none
 |.B7 d n zs parts=>if n*zs.length<=16777216 then match bsK zs.length n S (rowsOf n zs) parts with
  |some (S',xs)=>S'.ED d ⟨.one,[.ow (.sl zs.length xs)]⟩|none=>none
  else none
 |.ld d n x=>match S.one x with
  |some p=>match S.load (Dn n) p with|some ls=>S.ED d ⟨shN n,ls⟩|none=>none
  |none=>none
 |.st n x v=>match S.one x,S.rd v with|some p,some e=>if e.cs.length=n % 1048576/\GV e.sh (n % 1048576)=true then S.WG n p e.cs else none|_,_=>none
 |.chk d x=>match S.one x with|some p=>if St.Wc p=true then S.ED d ⟨.one,[p]⟩ else none|none=>none
 |.bin d c op x y=>match S.rd x,S.rd y with
  |some ex,some ey=>match S.bin c op ex ey with|some t=>S.ED d ⟨.one,[.t t]⟩|none=>none
  |_,_=>none
 |.un d op x=>match S.sc x with
  |some a=>match unT op a with|some t=>S.ED d ⟨.one,[.t t]⟩|none=>none
  |none=>none
 |.cvI d k x=>match S.nat x with|some n=>S.ED d ⟨.one,[.t (.int k (k.wrap n))]⟩|none=>none
 |.OB d x=>match S.sc x with|some (.str s)=>S.ED d ⟨.one,[.ow (.sl 1 (Kq s))]⟩|_=>none
 |.Ru d x=>match S.one x with
  |some l=>match S.elems l with
   |some xs=>match bytesOf xs with|some bs=>S.ED d ⟨.one,[.t (.str bs)]⟩|none=>none
   |none=>none
  |none=>none
 |.PF d f caps=>match S.rds caps with|some es=>if (es.all fun e=>ALo e.sh&&e.cs.length==1&&e.cs.all AU.plain)=true then S.ED d ⟨.one,[.fn f (es.flatMap Ent.cs)]⟩ else none|none=>none
 |.Nt d zs n c=>match S.nat n,S.nat c with|some k,some k'=>if k'=k/\0<=k/\k<=lim then S.ED d ⟨.one,[.ow (.sl zs.length (rowsOf k.toNat zs))]⟩ else none|_,_=>none
 |.dk d x lo hi=>match S.sc x with
  |some (.str s)=>match S.range s.length lo hi with|some (a,b)=>S.ED d ⟨.one,[.t (.str ((s.drop a).take (b-a)))]⟩|none=>none
  |_=>none
 |.sub d e x lo hi=>match S.one x with
  |some l=>match if S.wide e l=true then S.elems l else none with
   |some xs=>match S.range xs.length lo hi with
    |some (a,b)=>match l with|.al r none=>S.ED d ⟨.one,[.al r (some (a,b-a))]⟩|.al r (some (lo0,_))=>S.ED d ⟨.one,[.al r (some (lo0+a,b-a))]⟩|.vw s e' _=>S.ED d ⟨.one,[.vw s.up e' ((xs.drop a).take (b-a))]⟩|l=>S.ED d ⟨.one,[l]⟩
    |none=>none
   |none=>none
  |none=>none
 |.fa d off x=>match S.one x with
  |some p=>match Ok off p with|some q=>S.ED d ⟨.one,[q]⟩|none=>none
  |none=>none
 |.fld d off n x=>match S.rd x with|some ⟨.agg,cs⟩=>if off+Dn n<=cs.length then S.ED d ⟨shN n,(cs.drop off).take (Dn n)⟩ else none|_=>none
 |.ia d e x i=>match S.one x,S.nat i with
  |some l,some n=>match S.elems l with
   |some xs=>if S.wide e l=true/\0<=n/\n<xs.length then match l with
    |.al r none=>S.ED d ⟨.one,[.ep r n.toNat 0]⟩|.al r (some (lo,_))=>S.ED d ⟨.one,[.ep r (lo+n.toNat) 0]⟩|.vw s _ _=>S.ED d ⟨.one,[.vp s.up (xs.getD n.toNat [])]⟩|_=>none
    else none
   |none=>none
  |_,_=>none
 |.ix d x i=>match S.sc x,S.nat i with|some (.str s),some n=>if 0<=n/\n<s.length then S.ED d ⟨.one,[.t (.int .u8 (s.getD n.toNat 0).toNat)]⟩ else none|_,_=>none
 |.ext d x i=>match x with
  |.tmp s=>match get S.tm s with
   |some ⟨.tup ns,cs⟩=>match ns[i]? with
    |some n=>
     let o:=bL (ns.take i)
     if o+Dn n<=cs.length then match Mf S (((Wq s 0 cs).drop o).take (Dn n)) with|some (S',ls)=>S'.ED d ⟨shN n,ls⟩|none=>none
     else none
    |none=>none
   |_=>none
  |_=>none
 |.lens d x=>match S.sc x with|some (.str s)=>S.ED d ⟨.one,[.t (.int .i64 s.length)]⟩|_=>none
 |.len d x=>match S.one x with
  |some l=>match S.elems l with|some xs=>S.ED d ⟨.one,[.t (.int .i64 xs.length)]⟩|none=>none
  |none=>none
 |.app d e fl x y=>match S.one x,S.one y with
  |some lx,some ly=>match TM e fl S ly with
   |some (S1,ys)=>match WQ e S1 lx with|some (S2,b,n)=>if n+ys.length<=lim then S2.ED d ⟨.one,[.ow (AUh e b ys)]⟩ else none|none=>none
   |none=>none
  |_,_=>none
 |.Wr d zs x n=>match S.one x,S.nat n with
  |some lx,some k=>if 0<=k/\k<=lim then match WQ zs.length S lx with
   |some (S2,b,n)=>if n+k.toNat<=lim then S2.ED d ⟨.one,[.ow (AUh zs.length b (rowsOf k.toNat zs))]⟩ else none|none=>none
   else none
  |_,_=>none
 |.cpy d e x y=>match S.one x,S.one y with
  |some (.al r none),some ly=>match S.at r,S.elems ly with
   |some (.ow (.sl e' xs)),some ys=>
    if e'=e/\S.wide e ly=true/\G5 ys=true/\G5 xs=true/\xs.isEmpty=false
    then ((S.B3 r (.ow (.sl e (ys.take xs.length++xs.drop ys.length)))).kill (Fa r)).ED d ⟨.one,[.t (.int .i64 (min ys.length xs.length:Nat))]⟩ else none
   |_,_=>none
  |_,_=>none
 |.mm d isMax x y=>match S.sc x,S.sc y with|some (.int k a),some (.int k' b)=>if k'=k then S.ED d ⟨.one,[.t (.int k (if isMax=true then (if b>a then b else a) else (if b<a then b else a)))]⟩ else none|_,_=>none
 |.mmk d=>S.ED d ⟨.one,[.ow (.mp [])]⟩|.bF d x k=>match S.UG x,S.sc k with|some (_,ks),some (.int .i64 n)=>S.ED d ⟨.one,[.t (.int .i64 (Oh ks n))]⟩|_,_=>none
 |.Zg x k v=>match S.UG x,S.sc k,S.sc v with|some (r,ks),some (.int .i64 n),some (.int .i64 m)=>some ((S.B3 r (.ow (.mp (KO ks n m)))).kill (Fa r))|_,_,_=>none
 |.bG d x=>match S.UG x with|some (_,ks)=>S.ED d ⟨.one,[.t (.int .i64 ks.length)]⟩|none=>none
 |.bad _=>none|.drop ds=>some (S.Iw ds)|.Zk ns=>some (S.Vv ns)|.call _ _ _=>none|.D1 _ _ _ _=>none
def Fv(o:XOp)(S:St):Option (Nat×Aq×List Ent):=
 match o with
 |.call d f args=>match S.rds args with|some es=>some (d,f,es)|none=>none
 |.D1 d x ms args=>match S.one x,S.rds args with|some (.fn f caps),some es=>if Ek f=ms then some (d,f,es++caps.map (fun l=>⟨.one,[l]⟩)) else none|_,_=>none
 |_=>none
def yF(S:St)(e:Ent):Option Nat:=
 match e with
 |⟨.one,[.bp id _]⟩=>match get S.bx id with|some ls=>if (Fi (DY ls) ls).isSome=true then some (DY ls) else none|none=>none
 |e=>if (Fi (DY e.cs) e.cs).isSome=true then some (DY e.cs) else none
def pre(f:Aq)(es:List Ent)(S:St):Option (St×List V):=if TY [] (Ek f) es=true then none else dx S (Ek f) es
def yG(f:Aq)(S0:St)(es:List Ent)(k:Nat):Option Nat:=
 match es[k]? with
 |some e=>if (Ek f)[k]?=some .p then none else yF S0 e|none=>none
def UL(S:St)(d:Nat)(ls:List AU):Option St:=
 if d∈S.pin then none else
  let S2:=S.kill (fun l=>E4 d l||Fp d l)
  some { S2 with tm:=put S2.tm d ⟨.one,[.bp d 0]⟩,bx:=put S2.bx d ls}
def post(d:Nat)(f:Aq)(es:List Ent)(S0 S:St)(sh:Sh)(cs:List T)(outs:List (List T)):Option St:=
 match Fh S0 S (Ek f) es outs with
 |some S'=>match sh with
  |.ptr k=>match yG f S0 es k with|some lab=>UL S' d (cs.map (ER lab))|none=>none
  |.vw k=>match yG f S0 es k with|some lab=>S'.ED d ⟨.one,cs.map (ER lab)⟩|none=>none
  |sh=>S'.ED d (AhH sh cs)
 |none=>none
def XOp.wa:XOp->Option Nat|.mv d _|.as d _|.pick d _ _ _|.alloc d _|.box d _|.build d _ _|.B7 d _ _ _|.ld d _ _|.chk d _|.bin d _ _ _ _|.un d _ _|.cvI d _ _|.OB d _|.Ru d _|.PF d _ _|.Nt d _ _ _|.sub d _ _ _ _|.dk d _ _ _|.fa d _ _|.fld d _ _ _|.ia d _ _ _|.ix d _ _|.ext d _ _|.call d _ _|.D1 d _ _ _|.len d _|.lens d _|.app d _ _ _ _|.Wr d _ _ _|.cpy d _ _ _|.mm d _ _ _|.mmk d|.bF d _ _|.bG d _=>some d|.st _ _ _=>none|.Zg _ _ _=>none|.bad d=>d|.drop _=>none|.Zk _=>none
def N4(o:XOp)(S:St):Option St:=match o.wa with|some d=>S.ED d ⟨.one,[.und]⟩|none=>some S
def wanted(S:St):Option (Nat×Bool)->Option Bool
 |none=>some true|some (s,want)=>match get S.tm s with|some ⟨.one,[.t (.bool b)]⟩=>some (b==want)|some ⟨.one,[.und]⟩=>some false|_=>none
def opK(Rn:Rel)(o:XOp)(S:St)(K:St->Prop):Prop:=
 (∃S',ev o S=some S'/\K S') \/
 (∃d f es S1 vs sh cs outs S2,Fv o S=some (d,f,es)/\pre f es S=some (S1,vs)/\Rn f vs sh cs outs/\post d f es S S1 sh cs outs=some S2/\K S2)
def APF(Rn:Rel):List (Option (Nat×Bool)×XOp)->St->(St->Prop)->Prop
 | [],S,K=>K S|(g,o)::r,S,K=>∃b,wanted S g=some b /\
  ((b=true/\opK Rn o S (fun S'=>APF Rn r S' K))\/(b=false/\∃S',N4 o S=some S'/\APF Rn r S' K))
def XOp.wr:XOp->Option Opd|.app _ _ _ x _|.Wr _ _ x _|.cpy _ _ x _|.Zg x _ _=>some x|_=>none
def Kn(l:AU):List Md->List Ent->Bool|md::ms,e::es=>(!md.writes||e.cs.all fun l'=>!V9 l' l)&&Kn l ms es|_,_=>true
def St.P5(S:St):AU->Bool
 |.bp id _=>(get S.bx id).isSome|.ep _ _ _=>true|.vp _ cs=>!cs.isEmpty|.al r _=>match S.at r with|some (.ow x)=>!lu x|_=>false
 |.vw (.own _ _) _ _=>true|.t .nil=>true|_=>false
def bu(o:XOp)(S:St)(l:AU):Bool:=
 S.P5 l&&match o with
  |.st _ x _=>match S.one x with|some (.bp id _)=>!(names l).contains id|some (.ep r _ _)=>decide (l.CA≠some r)|_=>false
  |o=>match Fv o S with
   |some (_,f,es)=>Kn l (Ek f) es|none=>match o.wr with
    |some y=>match S.one y with|some lt=>l.CA.isNone||decide (l.CA≠lt.CA)|none=>true
    |none=>true
def Ke(o:XOp)(S:St):List Nat->Bool
 | []=>true|s::ss=>(match S.one (.tmp s) with|some l=>bu o S l|none=>false)&&Ke o S ss
def runK(Rn:Rel):Wi->St->(St->Prop)->Prop
 |.nil,S,K=>K S|.op _ g sf o rest,S,K=>∃b,wanted S g=some b /\
  ((b=true/\Ke o S sf=true/\opK Rn o S (fun S'=>runK Rn rest S' K))\/(b=false/\∃S',N4 o S=some S'/\runK Rn rest S' K))
 |.dr ds rest,S,K=>runK Rn rest (S.Iw ds) K|.nl ns rest,S,K=>runK Rn rest (S.Vv ns) K|.both a b,S,K=>runK Rn a S K/\runK Rn b S K
inductive Ex where
 |n|x(id:Nat)|r
def ATu(body:St->(Ex->St->Prop)->Prop):Nat->St->(Ex->St->Prop)->Prop
 |0,_,_=>False|n+1,S,Q=>body S (fun e S'=>match e with|.n=>ATu body n S' Q|e=>Q e S')
def wp(Rn:Rel):Pl->St->(Ex->St->Prop)->Prop
 |.skip,S,Q=>Q .n S|.region ops Fo,S,Q=>APF Rn ops S (fun S'=>∃ks,Q .n (S'.clean ks))|.RD r Fo,S,Q=>runK Rn r S (fun S'=>∃ks,Q .n (S'.clean ks))|.seq a b,S,Q=>wp Rn a S (fun e S'=>match e with|.n=>wp Rn b S' Q|e=>Q e S')
 |.cond c kt ke t e,S,Q=>∃b,S.sc (.tmp c)=some (.bool b)/\∃ks,if b=true then wp Rn t (S.clean ks) Q else wp Rn e (S.clean ks) Q|.block id b,S,Q=>wp Rn b S (fun e S'=>match e with|.x i=>if i=id then Q .n S' else Q (.x i) S'|e=>Q e S')
 |.loop b,S,Q=>∃n,ATu (wp Rn b) n S Q|.exit id,S,Q=>Q (.x id) S|.ret,S,Q=>Q .r S|.scope b,S,Q=>wp Rn b S Q|.or a b,S,Q=>wp Rn a S Q\/wp Rn b S Q|.dead,_,_=>False
def Rt(i:Nat):List V->Option (List AU)| []=>some []|.v .one [x]::vs=>(Rt i vs).map (ER i x::·)|.p cs::vs=>(Rt i vs).map (.vp (.old i) cs::·)|_::_=>none
def initK:Nat->List Md->List V->St->Option St
 |_,[],[],S=>some S|i,.v::ms,.v sh cs::vs,S=>initK (i+1) ms vs { S with tm:=put S.tm i ⟨sh,cs.map (ER i)⟩}
 |i,.v::ms,.f xf caps::vs,S=>match Rt i caps with
  |some ls=>initK (i+1) ms vs { S with tm:=put S.tm i ⟨.one,[.fn xf ls]⟩}
  |none=>none
 |i,.p::ms,.p cs::vs,S=>initK (i+1) ms vs { S with tm:=put S.tm i ⟨.one,[.vp (.old i) cs]⟩}
 |i,.b::ms,.b cs::vs,S=>initK (i+1) ms vs { S with tm:=put S.tm i ⟨.one,[.bp i 0]⟩,bx:=put S.bx i (cs.map (ER i)),pin:=i::S.pin}
 |i,.o::ms,.o sh cs::vs,S=>initK (i+1) ms vs { S with tm:=put S.tm i ⟨sh,cs.map Kb⟩}
 |i,.m::ms,.m sh cs::vs,S=>if GV sh cs.length=true then initK (i+1) ms vs { S with tm:=put S.tm i ⟨sh,cs.map Kb⟩,pin:=i::S.pin} else none
 |_,_,_,_=>none
def N3:List G6->St->Option (List (Option Nat)×List AU)
 | [],_=>some ([],[])|.tmp t::rs,S=>match S.rd (.tmp t),N3 rs S with
  |some e,some (ns,ls)=>if GV e.sh e.cs.length=true then some ((match e.sh with|.one=>none|_=>some e.cs.length)::ns,e.cs++ls) else none
  |_,_=>none
 |.cell t n::rs,S=>match S.one (.tmp t) with
  |some (.bp id o)=>match S.load (Dn n) (.bp id o),N3 rs S with|some ls',some (ns,ls)=>some (n::ns,ls'++ls)|_,_=>none
  |_=>none
 |.bx _::_,_=>none|.vw _ _::_,_=>none|.un _ _::_,_=>none
def AMi:List (Option Nat)->Sh| [none]=>.one| [some _]=>.agg|ns=>.tup ns
def Qm:List AU->Bool
 | []=>true|l::ls=>(match l with|.t x=>!Wd x|.vw (.old _) _ _=>true|_=>false)&&Qm ls
def oO(rs:List G6)(S:St):Option (St×Sh×List T):=
 match rs with
 | [.bx t]=>match S.one (.tmp t) with
  |some (.bp id 0)=>match get S.bx id with
   |some ls=>if id∈S.pin then none else match Fi (DY ls) ls with|some cs=>some (S,.ptr (DY ls),cs)|none=>none
   |none=>none
  |_=>none
 | [.vw t k]=>match S.one (.tmp t) with
  |some (.vw (.old k') e xs)=>if k'=k then some (S,.vw k,[.sl e xs]) else none|some (.t .nil)=>some (S,.vw k,[.nil])|some (.al r sub)=>match S.at r with|some (.ow x)=>some (S.out r,.vw k,[AAR sub x])|_=>none
  |_=>none
 |.un t n::r::rs=>match S.one (.tmp t) with
  |some (.bp id o)=>match S.load n (.bp id o) with
   |some ls'=>if Qm ls'=true then match N3 (r::rs) S with
    |some (ns,ls)=>match Dm S ls with|some (S',cs)=>some (S',.tup (some n::ns),List.replicate n .un++cs)|none=>none
    |none=>none
    else none
   |none=>none
  |_=>none
 |rs=>match N3 rs S with
  |some (ns,ls)=>match Dm S ls with|some (S',cs)=>some (S',AMi ns,cs)|none=>none
  |none=>none
def owT:AU->Option T|.ow x=>some x|.t x=>if Wd x=true then none else some x|_=>none
def oN:List AU->Option (List T)
 | []=>some []|l::ls=>match owT l,oN ls with|some x,some xs=>some (x::xs)|_,_=>none
def FP:Nat->List Md->St->Option (List (List T))
 |_,[],_=>some []|i,.b::ms,S=>match get S.bx i,FP (i+1) ms S with|some ls,some os=>if i∈S.pin then (Fi i ls).map (·::os) else none|_,_=>none
 |i,.m::ms,S=>match get S.tm i,FP (i+1) ms S with|some e,some os=>if i∈S.pin/\GV e.sh e.cs.length=true then (oN e.cs).map (·::os) else none|_,_=>none
 |i,_::ms,S=>FP (i+1) ms S
def fin(ms:List Md)(rs:List G6)(S:St)(sh:Sh)(cs:List T)(outs:List (List T)):Prop:=
 ∃S',oO rs S=some (S',sh,cs)/\FP 0 ms S'=some outs
def Gx:List Md->List V->List (List T)->Bool| [],[],[]=>true|.b::ms,.b cs::vs,o::os=>o.length==cs.length&&Gx ms vs os|.b::_,_,_=>false|.m::ms,_::vs,_::os=>Gx ms vs os|.v::ms,_::vs,os=>Gx ms vs os|.p::ms,_::vs,os=>Gx ms vs os|.o::ms,_::vs,os=>Gx ms vs os|_,_,_=>false
def bO(id:Nat)(vs:List V)(sh:Sh)(cs:List T)(outs:List (List T)):Prop:=
 id≠1/\if id % 2=0 then
  ∃x xs y ys i,vs=[.o .one [x],.v .one [.int .i64 i],.v .one [y]]/\content x=some xs/\eOf (id / 2) x=true/\content y=some ys/\eOf (id / 2) y=true/\G5 xs=true/\G5 ys=true/\0<=i/\i.toNat<=xs.length/\ys≠[]/\xs.length+ys.length<=lim /\
   sh=.one/\cs=[.sl (id / 2) (xs.take i.toNat++ys++xs.drop i.toNat)]/\outs=[]
 else
  ∃xs i j,vs=[.o .one [.sl (id / 2) xs],.v .one [.int .i64 i],.v .one [.int .i64 j]]/\G5 xs=true/\0<=i/\i<j/\j<=xs.length /\
   sh=.one/\cs=[.sl (id / 2) (xs.take i.toNat++xs.drop j.toNat)]/\outs=[]
def jV(Rn:Rel):Aq->List V->Sh->List T->List (List T)->Prop
 |.mk ms rs body,vs,sh,cs,outs=>∃S0,initK 0 ms vs ⟨[],[],[]⟩=some S0 /\
  wp Rn body S0 (fun e S=>match e with|.x _=>False|_=>fin ms rs S sh cs outs)/\Gx ms vs outs=true
 |.Dw id _,vs,sh,cs,outs=>bO id vs sh cs outs
def IM:Rel:=fun f vs sh cs outs=>∀Rn:Rel,(∀f vs sh cs outs,jV Rn f vs sh cs outs->Rn f vs sh cs outs)->Rn f vs sh cs outs
end Lv
namespace Lv
open Go
abbrev Blk:=Nat->Prop
def Sc:T->Value->Prop|.top,_=>True|.un,v=>v.oneCell'=true|.int k n,v=>v=.int k n|.bool b,v=>v=.bool b|.str s,v=>v=.string ⟨s.toArray⟩|.nil,v=>v=.slice none 0 0|.np,v=>v=.pointer none|.sl _ _,_=>False|.mp _,_=>False
structure Still(w w':World):Prop where
 size:w.heap.size<=w'.heap.size
 os:w'.os=w.os
 output:w'.output=w.output
 frozen:∀a,a.block<w.heap.size->w'.frozen? a=w.frozen? a
theorem Still.refl{w:World}:Still w w:=⟨Af _,rfl,rfl,fun _ _=>rfl⟩
theorem Still.trans{w w' j:World}(h:Still w w')(c:Still w' j):Still w j:=
 ⟨Nat.le_trans h.size c.size,c.os.trans h.os,c.output.trans h.output,fun a e=>(c.frozen a (BY e h.size)).trans (h.frozen a e)⟩
theorem Still.drawn{w:World}(n:Nat):Still w { w with drawn:=n}:=⟨Af _,rfl,rfl,fun _ _=>rfl⟩
theorem Still.alloc{w:World}{o:Obj}:Still w { w with heap:=w.heap.push o}:=by
 refine⟨by simp,rfl,rfl,fun a h=>?_⟩;unfold World.frozen?;simp[Gk,Ou h]
theorem Still.old{w w':World}(j:w.heap.size<=w'.heap.size)(c:w'.os=w.os)(e:w'.output=w.output)(q:∀b,b<w.heap.size->w'.heap[b]?=w.heap[b]?):Still w w':=by
 refine⟨j,c,e,fun a h=>?_⟩;unfold World.frozen?;rw[q _ h]
theorem Still.setRow{w:World}{b:Nat}{row:Array Value}:Still w (w.setRow b row):=by
 refine⟨by simp[World.setRow],rfl,rfl,fun a _=>?_⟩
 grind[World.frozen?,World.setRow]
def FR(w:World)(blk:Nat)(arr:Array Value)(E:TypeId)(e:Nat):Prop:=∃fr:Nat×Nat,w.heap[blk]?=some (.cells arr E fr)/\(fr.2=0\/arr.size<=fr.1/\e=1)
theorem FR.of{w:World}{blk:Nat}{arr:Array Value}{E:TypeId}{e:Nat}(h:w.heap[blk]?=some (.cells arr E (0,0))):FR w blk arr E e:=⟨_,h,.inl rfl⟩
theorem FR.cell{e:Nat}{w:World}{blk:Nat}{arr:Array Value}{E:TypeId}(h:FR w blk arr E e)(o:Nat):w.cell? ⟨blk,o,none⟩=arr[o]?:=by
 obtain⟨fr,h,_⟩:=h;simp[World.cell?,h]
theorem FR.lt{e:Nat}{w:World}{blk:Nat}{arr:Array Value}{E:TypeId}(h:FR w blk arr E e):blk<w.heap.size:=by
 obtain⟨fr,h,_⟩:=h;exact(BB.1 h).1
theorem FR.same{e:Nat}{w w':World}{blk:Nat}{arr:Array Value}{E:TypeId}(h:FR w blk arr E e)(j:w'.heap[blk]?=w.heap[blk]?):FR w' blk arr E e:=by
 obtain⟨fr,h,c⟩:=h;exact⟨fr,j.trans h,c⟩
theorem FR.set{e:Nat}{w:World}{blk:Nat}{arr new:Array Value}{E:TypeId}(h:FR w blk arr E e)(j:new.size=arr.size):FR (w.setRow blk new) blk new E e:=by
 obtain⟨fr,h,c⟩:=h;refine⟨fr,?_,by rw[j];exact c⟩;simp[World.setRow,Fz,h]
theorem FR.Agf{e:Nat}{w:World}{blk:Nat}{arr:Array Value}{E:TypeId}(h:FR w blk arr E e){o:Nat}(j:o<arr.size):w.frozen? ⟨blk,o,none⟩=false:=by
 obtain⟨fr,h,c⟩:=h
 grind[World.frozen?,Bool.and_eq_false_iff,decide_eq_false_iff_not]
theorem AFI{α:Type}(xs:Array α)(i:Nat)(f g:α->α)(h:∀x,xs[i]?=some x->f x=g x):xs.modify i f=xs.modify i g:=by
 grind
theorem AMe{e:Nat}{w:World}{blk o:Nat}{arr:Array Value}{E:TypeId}{v:Value}(h:FR w blk arr E e):w.setCell ⟨blk,o,none⟩ v=w.setRow blk (arr.setIfInBounds o v):=by
 obtain⟨fr,h,_⟩:=h
 grind[World.setCell,World.setRow,AFI]
theorem setRow_setRow{w:World}{blk:Nat}{x y:Array Value}:(w.setRow blk x).setRow blk y=w.setRow blk y:=by
 unfold World.setRow;congr 1
 grind
theorem jZ{blk e:Nat}{E:TypeId}:∀(vs:List Value) (o:Nat) (arr:Array Value) (w:World),FR w blk arr E e->o+vs.length<=arr.size ->
 w.setCells blk o vs=w.setRow blk (arr.toList.take o++vs++arr.toList.drop (o+vs.length)).toArray
 | [],o,arr,w,h,_=>by
  obtain⟨fr,h,_⟩:=h;simp only[World.setCells,List.append_nil,AN,DD,List.take_append_drop,Array.toArray_toList];exact(setRow_self w blk arr E fr h).symm
 |v::r,o,arr,w,h,q=>by
  simp only[AH]at q;have c:o<arr.size:=by omega
  rw[World.setCells,AMe h,jZ r (o+1) (arr.setIfInBounds o v) _ (h.set (by simp)) (by simp;omega),setRow_setRow];congr 2;simp only[Array.toList_setIfInBounds,AH];rw[List.set_eq_take_append_cons_drop,if_pos (by simpa using c)];have j:(arr.toList.take o).length=o:=by simp;omega
  rw[List.take_append,List.drop_append,j];simp only[show o+1-o=1 from by omega,List.take_succ_cons,List.take_zero];rw[List.take_of_length_le (by omega),List.drop_eq_nil_of_le (by omega)];simp only[List.nil_append,show o+1+r.length-o=r.length+1 from by omega,List.drop_succ_cons,List.drop_drop,CR,List.cons_append];congr 4;omega
theorem Fb{e:Nat}{P:Program}{w:World}{g o:Nat}{cur:Array Value}{E:TypeId}{vs:List Value}(h:FR w g cur E e)(y:o+vs.length<=cur.size)(c:∀v∈vs,v.oneCell'=true) :
 (storeCells ⟨g,o,none⟩ vs 0).run P w=.ok () (w.setRow g (cur.toList.take o++vs++cur.toList.drop (o+vs.length)).toArray):=by
 rw[run_storeCells_cells (P:=P) g o vs 0 w ?_ ?_ c]
 .grind[jZ]
 .intro j q;rw[h.cell];simp;omega
 .intro j q;exact h.Agf (by omega)
def nP(e:MapEntry):Value×Value:=(e.key,e.val)
def ni(p:Int×Int):Value×Value:=(.int .i64 p.1,.int .i64 p.2)
def pM(w:World)(blk:Nat)(ks:List (Int×Int)):Prop:=∃es clock,w.heap[blk]?=some (.map es clock)/\es.toList.map nP=ks.map ni
theorem pM.lt{w:World}{blk:Nat}{ks:List (Int×Int)}(h:pM w blk ks):blk<w.heap.size:=by
 obtain⟨_,_,h,_⟩:=h;exact(BB.1 h).1
theorem pM.same{w w':World}{blk:Nat}{ks:List (Int×Int)}(h:pM w blk ks)(q:w'.heap[blk]?=w.heap[blk]?):pM w' blk ks:=by
 obtain⟨es,c,e,j⟩:=h;exact⟨es,c,q.trans e,j⟩
inductive View(w:World)(B:Blk):T->Value->Prop
 |sc {x:T} {v:Value}:Sc x v->View w B x v|sl {e:Nat} {xs:List (List T)} {a:Addr} {len cap:Nat} (c:Nat->Nat->Value):len=xs.length->len<=cap->(∀row∈xs,row.length=e) ->
  (xs≠[]->a.spot=none/\B a.block) ->
  (∀i j x,at2 xs i j=some x->w.cell? ⟨a.block,a.off+i*e+j,none⟩=some (c i j)) ->
  (∀i j x,at2 xs i j=some x->View w B x (c i j))->View w B (.sl e xs) (.slice (some a) len cap)
 |nl {e:Nat}:View w B (.sl e []) (.slice none 0 0)|mp {ks:List (Int×Int)} {blk:Nat}:pM w blk ks->B blk->View w B (.mp ks) (.map (some blk))
inductive Own(w:World):T->Value->Blk->Prop
 |sc {x:T} {v:Value} {S:Blk}:Sc x v->v.oneCell'=true->(∀b,¬S b)->Own w x v S|sl {e:Nat} {xs:List (List T)} {blk off len cap:Nat} {arr:Array Value} {E:TypeId} {S:Blk} (c:Nat->Nat->Value) (f:Nat->Nat->Blk) :
  len=xs.length->len<=cap->(∀row∈xs,row.length=e)->FR w blk arr E e->off+cap*e<=arr.size ->
  (∀i j x,at2 xs i j=some x->arr[off+i*e+j]?=some (c i j)) ->
  (∀i j x,at2 xs i j=some x->Own w x (c i j) (f i j)) ->
  (∀i j x,at2 xs i j=some x->¬f i j blk) ->
  (∀i j x i' j' x',at2 xs i j=some x->at2 xs i' j'=some x'->(i=i'->j≠j')->∀b,f i j b->¬f i' j' b) ->
  (∀b,S b↔b=blk\/∃i j x,at2 xs i j=some x/\f i j b) ->
  Own w (.sl e xs) (.slice (some ⟨blk,off,none⟩) len cap) S
 |nl {e:Nat} {S:Blk}:(∀b,¬S b)->Own w (.sl e []) (.slice none 0 0) S|mp {ks:List (Int×Int)} {blk:Nat} {S:Blk}:pM w blk ks->(∀b,S b↔b=blk)->Own w (.mp ks) (.map (some blk)) S
theorem View.mono{w w':World}{B B':Blk}{x:T}{v:Value}(h:View w B x v)(E:∀b,B b->B' b)(J:∀b,B b->w'.heap[b]?=w.heap[b]?):View w' B' x v:=by
 induction h with
 |nl=>exact .nl|mp h q=>exact .mp (h.same (J _ q)) (E _ q)|sc h=>exact .sc h|@sl e xs a len cap c G q H y Q X O=>
  refine .sl c G q H (fun h=>⟨(y h).1,E _ (y h).2⟩) ?_ O;intro i j x L;have I:xs≠[]:=by
   rintro rfl;simp[at2]at L
  grind[World.cell?]
theorem Own.frame{w w':World}{S:Blk}{x:T}{v:Value}(h:Own w x v S)(y:∀b,S b->w'.heap[b]?=w.heap[b]?):Own w' x v S:=by
 induction h with
 |nl e=>exact .nl e|mp h e=>exact .mp (h.same (y _ ((e _).2 rfl))) e|sc h q e=>exact .sc h q e|sl c f q B E G H I O J L j Q=>
  refine .sl c f q B E (G.same (y _ ((j _).2 (.inl rfl)))) H I ?_ J L j
  grind
theorem Own.congr{w:World}{S S':Blk}{x:T}{v:Value}(h:Own w x v S)(e:∀b,S' b↔S b):Own w x v S':=by
 cases h with
 |nl E=>exact .nl fun b B=>E b ((e b).1 B)|mp h y=>exact .mp h fun b=>(e b).trans (y b)|sc h j E=>exact .sc h j fun b B=>E b ((e b).1 B)|sl c f j y G H I J L O Q q=>exact .sl c f j y G H I J L O Q fun b=>(e b).trans (q b)
theorem Own.lt{w:World}{S:Blk}{x:T}{v:Value}(h:Own w x v S):∀b,S b->b<w.heap.size:=by
 induction h with
 |nl q=>exact fun b e=>(q b e).elim|mp h q=>intro b e;rw[(q b).1 e];exact h.lt
 |sc h B q=>exact fun b e=>(q b e).elim|sl c f B I J E L O Q X Y y H=>
  intro b e;rcases(y b).1 e with rfl|⟨i,j,x,G,e⟩
  .exact E.lt
  .exact H i j x G b e
theorem Own.view{w:World}{S:Blk}{x:T}{v:Value}(h:Own w x v S):View w S x v:=by
 induction h with
 |sc h _ y=>exact .sc h|nl=>exact .nl|mp h y=>exact .mp h ((y _).2 rfl)|sl c f B E G H O I Q X Y e L=>
  refine .sl c B E G (fun _=>⟨rfl,(e _).2 (.inl rfl)⟩) ?_ ?_
  .intro i j x q;rw[H.cell];exact I i j x q
  .intro i j x q;exact(L i j x q).mono (fun b J=>(e b).2 (.inr ⟨i,j,x,q,J⟩)) fun _ _=>rfl
theorem Sc.one{x:T}{v:Value}(h:Sc x v)(e:Wd x=false):v.oneCell'=true:=by
 cases x with
 |top=>cases e
 |un=>exact h|sl=>exact h.elim|mp=>exact h.elim|_=>have c:v=_:=h;subst c;rfl
theorem Own.one{w:World}{S:Blk}{x:T}{v:Value}(h:Own w x v S):v.oneCell'=true:=by
 cases h with
 |sc _ h _=>exact h|sl=>rfl|nl=>rfl|mp=>rfl
theorem ADZ{xs:List (List T)}{i j:Nat}{x:T}(h:at2 xs i j=some x):i<xs.length:=by
 grind[at2,List.getElem?_eq_some_iff]
theorem RM{xs:List (List T)}{e i j:Nat}{x:T}(h:at2 xs i j=some x)(c:∀row∈xs,row.length=e):j<e:=by
 grind[at2,List.mem_of_getElem?,List.getElem?_eq_some_iff]
theorem RN{xs:List (List T)}{lo n i j:Nat}{x:T}(h:at2 ((xs.drop lo).take n) i j=some x):i<n/\at2 xs (lo+i) j=some x:=by
 grind[at2]
theorem Own.sub{w:World}{S:Blk}{e:Nat}{xs:List (List T)}{blk off len cap:Nat}(h:Own w (.sl e xs) (.slice (some ⟨blk,off,none⟩) len cap) S){lo n off' cap':Nat}
 (hn:lo+n<=len) (Z:n<=cap') (I:cap'<=cap-lo) (ho:cap'≠0->off'=off+lo*e) (ho':off'<=off+lo*e) :
 ∃S':Blk,(∀b,S' b->S b)/\Own w (.sl e ((xs.drop lo).take n)) (.slice (some ⟨blk,off',none⟩) n cap') S':=by
 cases h with
 |sc h _ _=>exact h.elim|sl c f h1 h2 J L h5 h6 O Q X y=>
  refine⟨fun b=>b=blk\/∃i j x,at2 ((xs.drop lo).take n) i j=some x/\f (lo+i) j b,?_,?_⟩
  .rintro b (rfl|⟨i,j,x,q,Y⟩)
   .exact(y _).2 (.inl rfl)
   .exact(y _).2 (.inr ⟨_,_,_,(RN q).2,Y⟩)
  .have E:(lo+cap')*e<=cap*e:=Nat.mul_le_mul_right _ (by omega);rw[Nat.add_mul]at E;refine .sl (fun i j=>c (lo+i) j) (fun i j=>f (lo+i) j) (by simp;omega) Z ?_ L (by omega) ?_ ?_ ?_ ?_ (fun b=>Iff.rfl)
   .intro row B;exact J row (List.mem_of_mem_drop (List.mem_of_mem_take B))
   .intro i j x q;have h:=RN q
    grind[Nat.add_mul]
   .intro i j x q;exact O _ _ _ (RN q).2
   .intro i j x q;exact Q _ _ _ (RN q).2
   .intro i j x i' j' x' q H G;exact X _ _ _ _ _ _ (RN q).2 (RN H).2 (by intro h;exact G (by omega))
def tOf:Value->Option T|.int k n=>some (.int k n)|.bool b=>some (.bool b)|.string s=>some (.str s.data.toList)|.slice none 0 0=>some .nil|.pointer none=>some .np|_=>none
def Ads:T->T->Bool|.int k a,.int k' b=>decide (k=k')&&decide (a=b)|.bool a,.bool b=>a==b|.str a,.str b=>decide (a=b)|.nil,.nil=>true|.np,.np=>true|_,_=>false
def U0(v:Value)(x:T):Bool:=match tOf v with|some y=>Ads y x|none=>false
def ATx(v:Value)(x:T):Bool:=match v,x with|.slice none 0 0,.sl _ []=>true|_,_=>false
def aG:List Value->List T->Bool| [],[]=>true|v::vs,x::xs=>U0 v x&&aG vs xs|_,_=>false
def CP:Operand->Opd->Bool|.tmp t,.tmp t'=>t==t'|.const v,.k x=>U0 v x||ATx v x|.func _,.fn _=>true|_,_=>false
def CU:Operand->Opd->List (Nat×Aq)|.func f,.fn g=>[(f,g)]|_,_=>[]
def TG:List Operand->List Opd->Bool| [],[]=>true|a::as,b::bs=>CP a b&&TG as bs|_,_=>false
def Ei:List Operand->List Opd->List (Nat×Aq)|a::as,b::bs=>CU a b++Ei as bs|_,_=>[]
def bt:Option Operand->Option Opd->Bool|none,none=>true|some a,some b=>CP a b|_,_=>false
def Zn:Option Operand->Option Opd->List (Nat×Aq)|some a,some b=>CU a b|_,_=>[]
section
variable(P:Program)
def ZS:TypeDesc->Bool|.struct _=>true|_=>false
def TD:TypeDesc->Bool|.struct _|.array _ _=>true|_=>false
def J7(t:TypeId)(n:Option Nat):Bool:=
 match P.underlying t,P.info? t with
 |some d,some i=>(match n with|some k=>ZS d&&i.size==k|none=>!TD d&&i.size==1)
 |_,_=>false
def mo(t:TypeId)(zs:List T):Bool:=
 match P.info? t with
 |some i=>(match i.zero with|some v=>aG v.cells.toList zs|none=>false)&&i.size==zs.length
 |none=>false
def kE:List Value->List T->Bool| [],[]=>true|v::vs,x::xs=>(U0 v x||ATx v x)&&kE vs xs|_,_=>false
def AMY(t:TypeId)(zs:List T):Bool:=
 match P.info? t with
 |some i=>(match i.zero with|some v=>kE v.cells.toList zs|none=>false)&&i.size==zs.length
 |none=>false
def OZ(P:Program)(el:TypeId):Bool:=match P.info? el with|some i=>(match i.zero with|some z=>z.cells.size==i.size&&decide (0<i.bytes)|none=>false)|none=>false
def Fk(t:TypeId)(e:Nat):Bool:=
 match P.underlying t with
 |some (.slice el)=>(match P.info? el with|some i=>i.size==e&&decide (i.bytes<=65536)&&decide (0<e)|none=>false)
 |_=>false
def isStr(t:TypeId):Bool:=match P.underlying t with|some .string=>true|_=>false
def isInt(t:TypeId)(k:IntKind):Bool:=match P.underlying t with|some (.int k')=>decide (k'=k)|_=>false
def PE(t:TypeId):Bool:=match P.underlying t with|some (.map k e)=>isInt P k .i64&&(match P.info? e with|some i=>(match i.zero with|some (.int .i64 n)=>n==0|_=>false)|none=>false)|_=>false
def Vl(t:TypeId):Bool:=match P.underlying t with|some (.slice el)=>isInt P el .u8&&Fk P t 1|_=>false
def iU(t:TypeId)(f off:Nat):Bool:=
 match P.underlying t with
 |some (.struct fs)=>(match fs[f]? with|some x=>x.offset==off&&(match P.info? x.type with|some i=>decide (0<i.size)|none=>false)|none=>false)
 |_=>false
def T3(fs:Array Field):List (Nat×Operand)->List (Nat×Nat×Opd)->Bool
 | [],[]=>true|(i,x)::ps,(o,n,y)::qs=>(match fs[i]? with|some f=>f.offset==o&&(match P.info? f.type with|some t=>t.size==n|none=>false)|none=>false)&&CP x y&&T3 fs ps qs
 |_,_=>false
def PX:List (Nat×Operand)->List (Nat×Nat×Opd)->List (Nat×Aq)|(_,x)::ps,(_,_,y)::qs=>CU x y++PX ps qs|_,_=>[]
def ai:List (Nat×Operand)->List (Nat×Opd)->Bool| [],[]=>true|(i,x)::ps,(o,y)::qs=>i==o&&CP x y&&ai ps qs|_,_=>false
def UU:List (Nat×Operand)->List (Nat×Opd)->List (Nat×Aq)|(_,x)::ps,(_,y)::qs=>CU x y++UU ps qs|_,_=>[]
def AhE(t:TypeId)(k:Kd):Bool:=
 match P.underlying t,k with
 |some (.int _),.i=>true|some .bool,.b=>true|some .string,.s=>true|_,_=>false
def T4(sub:TypeId->List Kd->Bool):Nat->List Field->List Kd->Bool
 |_,[],[]=>true|o,f::fs,ks=>f.name != "_" && f.offset==o&&((match ks with|k::ks=>AhE P f.type k&&T4 sub (o+1) fs ks | []=>false) ||
  (match P.info? f.type with|some i=>sub f.type (ks.take i.size)&&T4 sub (o+i.size) fs (ks.drop i.size)|none=>false))
 |_,_,_=>false
def ALT:Nat->TypeId->List Kd->Bool
 |0,_,_=>false|n+1,t,ks=>match P.underlying t with|some (.struct fs)=>T4 P (ALT n) 0 fs.toList ks&&!P.stoodInHeld t|_=>false
def AG7(c:Cls)(t:TypeId):Bool:=
 match c,P.underlying t with
 |.num,_=>true|.bool,some .bool=>true|.sl,some (.slice _)=>true|.agg ks,some (.struct _)=>ALT P 4 t ks&&!P.eqGuardType P.depth t|_,_=>false
def AE3(d n:Nat):Bool:=decide (d<n)
def dT(N:Nat)(dst:Option Nat)(op:Op)(x:XOp):Bool:=
 (match x.wa,dst with|some d,some d'=>d==d'&&AE3 d N|none,none=>true|_,_=>false) &&
 match op,x with
 |.move a,.mv _ b=>CP a b|.assign a,.as _ b=>CP a b|.pick c a b,.pick _ c' a' b'=>CP c c'&&CP a a'&&CP b b'|.alloc t,.alloc _ zs=>mo P t zs|.box _ a,.box _ b=>CP a b|.build t ps,.build _ zs qs=>mo P t zs&&(match P.underlying t with|some (.struct fs)=>fs.toList.all (fun f=>(P.info? f.type).isSome)&&T3 P fs ps.toList qs|_=>false)
 |.buildSlice t n ps,.B7 _ n' zs qs=>n==n'&&Fk P t zs.length&&(match P.underlying t with|some (.slice el)=>AMY P el zs|_=>false)&&ai ps.toList qs
 |.load t a,.ld _ n b=>J7 P t n&&CP a b|.store t a v,.st n a' v'=>(match P.info? t with|some i=>i.size==n % 1048576|none=>false)&&CP a a'&&CP v v'
 |.nilCheck a,.chk _ b=>CP a b|.binOp op t a b _,.bin _ c op' a' b'=>decide (op=op')&&CP a a'&&CP b b'&&AG7 P c t|.unOp op _ a,.un _ op' b=>decide (op=op')&&CP a b|.convert s t a,.cvI _ k b=>CP a b&&isInt P t k&&(match P.underlying s with|some (.int _)=>true|_=>false)
 |.convert s t a,.OB _ b=>CP a b&&isStr P s&&Vl P t|.convert s t a,.Ru _ b=>CP a b&&Vl P s&&isStr P t|.makeFunc (.func _) first caps,.PF _ _ caps'=>first.isEmpty&&TG caps.toList caps'
 |.makeSlice t n c,.Nt _ zs n' c'=>Fk P t zs.length&&(match P.underlying t with|some (.slice el)=>AMY P el zs|_=>false)&&CP n n'&&CP c c'
 |.slice t a lo hi mx,.sub _ e b lo' hi'=>CP a b&&bt lo lo'&&bt hi hi'&&mx.isNone&&Fk P t e|.slice t a lo hi mx,.dk _ b lo' hi'=>CP a b&&bt lo lo'&&bt hi hi'&&mx.isNone&&isStr P t|.fieldAddr t a f,.fa _ off b=>iU P t f off&&CP a b|.field t a f,.fld _ off n b=>iU P t f off&&CP a b&&(match P.underlying t with|some (.struct fs)=>(match fs[f]? with|some x=>J7 P x.type n|none=>false)|_=>false)
 |.indexAddr t a i,.ia _ e b i'=>Fk P t e&&CP a b&&CP i i'|.index t a i,.ix _ b i'=>isStr P t&&CP a b&&CP i i'|.extract a i,.ext _ b i'=>CP a b&&i==i'|.call { callee:=.value (.func _),args,..},.call _ _ args'=>TG args.toList args'|.call { callee:=.value f,args,..},.D1 _ f' _ args'=>CP f f'&&TG args.toList args'|.call { callee:=.builtin .len,args,argTypes},.len _ b=>(match args.toList,argTypes.toList with
  | [a],[t]=>CP a b&&(match P.underlying t with|some (.slice _)=>true|_=>false)
  |_,_=>false)
 |.call { callee:=.builtin .len,args,argTypes},.lens _ b=>(match args.toList,argTypes.toList with
  | [a],[t]=>CP a b&&isStr P t|_,_=>false)
 |.call { callee:=.builtin .append,args,argTypes},.app _ e _ a' b'=>(match args.toList,argTypes.toList with
  | [a,b],[t,u]=>CP a a'&&CP b b'&&Fk P t e&&(match P.underlying t with|some (.slice el)=>OZ P el|_=>false) &&
   (match P.underlying u with|some (.slice el)=>Fk P u e&&(match P.underlying t with|some (.slice el')=>el==el'|_=>false)|some .string=>e==1&&Vl P t|_=>false)
  |_,_=>false)
 |.call { callee:=.builtin .append,args,argTypes},.Wr _ zs a' b'=>(match args.toList,argTypes.toList with
  | [a,b],[t,u]=>CP a a'&&CP b b'&&Fk P t zs.length&&(match P.underlying t with|some (.slice el)=>AMY P el zs&&OZ P el|_=>false)&&(match P.underlying u with|some (.int _)=>true|_=>false)
  |_,_=>false)
 |.call { callee:=.builtin .copy,args,argTypes},.cpy _ e a' b'=>(match args.toList,argTypes.toList with
  | [a,b],[t,u]=>CP a a'&&CP b b'&&Fk P t e&&Fk P u e|_,_=>false)
 |.makeMap t r,.mmk _=>r.isNone&&PE P t|.lookup t m k ok,.bF _ m' k'=>!ok&&PE P t&&CP m m'&&CP k k'|.mapUpdate t m k v,.Zg m' k' v'=>PE P t&&CP m m'&&CP k k'&&CP v v'|.call { callee:=.builtin .len,args,argTypes},.bG _ b=>(match args.toList,argTypes.toList with
  | [a],[t]=>CP a b&&PE P t|_,_=>false)
 |.call { callee:=.builtin .max,args,..},.mm _ true a' b'=>(match args.toList with | [a,b]=>CP a a'&&CP b b'|_=>false)
 |.call { callee:=.builtin .min,args,..},.mm _ false a' b'=>(match args.toList with | [a,b]=>CP a a'&&CP b b'|_=>false)
 |_,.bad _=>true|_,_=>false
end
def EF(op:Op)(x:XOp):List (Nat×Aq):=
 match op,x with
 |.move a,.mv _ b|.assign a,.as _ b|.box _ a,.box _ b|.load _ a,.ld _ _ b|.nilCheck a,.chk _ b|.unOp _ _ a,.un _ _ b|.convert _ _ a,.cvI _ _ b|.convert _ _ a,.OB _ b|.convert _ _ a,.Ru _ b|.fieldAddr _ a _,.fa _ _ b|.field _ a _,.fld _ _ _ b|.extract a _,.ext _ b _=>CU a b|.pick c a b,.pick _ c' a' b'=>CU c c'++CU a a'++CU b b'|.build _ ps,.build _ _ qs=>PX ps.toList qs|.buildSlice _ _ ps,.B7 _ _ _ qs=>UU ps.toList qs|.store _ a v,.st _ a' v'=>CU a a'++CU v v'|.binOp _ _ a b _,.bin _ _ _ a' b'=>CU a a'++CU b b'|.makeFunc (.func f) _ caps,.PF _ g caps'=>(f,g)::Ei caps.toList caps'|.makeSlice _ n c,.Nt _ _ n' c'=>CU n n'++CU c c'|.slice _ a lo hi _,.sub _ _ b lo' hi'|.slice _ a lo hi _,.dk _ b lo' hi'=>CU a b++Zn lo lo'++Zn hi hi'|.indexAddr _ a i,.ia _ _ b i'|.index _ a i,.ix _ b i'=>CU a b++CU i i'|.call { callee:=.value (.func f),args,..},.call _ g args'=>(f,g)::Ei args.toList args'|.call { callee:=.value f,args,..},.D1 _ f' _ args'=>CU f f'++Ei args.toList args'|.lookup _ m k _,.bF _ m' k'=>CU m m'++CU k k'|.mapUpdate _ m k v,.Zg m' k' v'=>CU m m'++CU k k'++CU v v'|.call { args,..},.bG _ b=>Ei args.toList [b]|.call { args,..},.len _ b|.call { args,..},.lens _ b=>Ei args.toList [b]|.call { args,..},.app _ _ _ a b|.call { args,..},.Wr _ _ a b|.call { args,..},.cpy _ _ a b|.call { args,..},.mm _ _ a b=>Ei args.toList [a,b]|_,_=>[]
def RV(ops:Array Oper):Option (Nat×Bool)->Option (Nat×Bool)->Bool
 |none,none=>true|some (j,want),some (s,want')=>want==want'&&(match ops[j]? with|some o=>decide (o.dst=some s)|none=>false)
 |_,_=>false
def UP(P:Program)(N:Nat)(ops:Array Oper):List Oper->List (Option (Nat×Bool)×XOp)->Bool| [],[]=>true|os,(g,.drop _)::xs=>g.isNone&&UP P N ops os xs|os,(g,.Zk _)::xs=>g.isNone&&UP P N ops os xs|o::os,(g,x)::xs=>RV ops o.guard g&&dT P N o.dst o.op x&&UP P N ops os xs|_,_=>false
def TH:List Oper->List (Option (Nat×Bool)×XOp)->List (Nat×Aq)|os,(_,.drop _)::xs=>TH os xs|os,(_,.Zk _)::xs=>TH os xs|o::os,(_,x)::xs=>EF o.op x++TH os xs|_,_=>[]
inductive Agp where
 |pure|ld|eff
def Og:XOp->Agp|.ld _ _ _|.Ru _ _=>.ld|.alloc _ _|.box _ _|.B7 _ _ _ _|.Nt _ _ _ _|.OB _ _|.app _ _ _ _ _|.Wr _ _ _ _|.cpy _ _ _ _|.st _ _ _|.mmk _|.bF _ _ _|.Zg _ _ _|.bG _ _|.bad _|.call _ _ _|.D1 _ _ _ _|.drop _|.Zk _=>.eff|_=>.pure
def ZX:XOp->Option Nat|.ld _ _ (.tmp s)=>some s|.Ru _ (.tmp s)=>some s|_=>none
def ALL(ops:Array Oper)(j:Nat):Nat:=match ops[j]? with|some o=>o.after.toList.foldl (fun m e=>if Region.binds .any e=true then m |||2 ^ e.on else m) 0|none=>0
def AXn(ops:Array Oper):Nat->Nat->Nat
 |0,m=>m|k+1,m=>match m.testBit k with|true=>AXn ops k (m |||ALL ops k)|false=>AXn ops k m
def WL(ops:Array Oper)(n j i:Nat):Bool:=(AXn ops n (ALL ops j)).testBit i
def RW:Wi->List Nat|.nil=>[]|.op i _ _ _ _=>[i]|.dr _ r=>RW r|.nl _ r=>RW r|.both a b=>RW a++RW b
def JC:Wi->Nat|.nil=>0|.op _ _ _ _ r=>JC r+1|.dr _ r=>JC r|.nl _ r=>JC r|.both a b=>max (JC a) (JC b)
def Iy(P:Program)(N:Nat)(ops:Array Oper):Bool->Wi->Array Bool->List (Nat×Nat)->Bool
 |top,.nil,L,_=>top&&(Region.ready .any ops L).isEmpty|top,.dr _ r,L,Ls=>Iy P N ops top r L Ls|top,.nl _ r,L,Ls=>Iy P N ops top r L Ls|top,.both a b,L,Ls=>(!top||(!(Region.ready .any ops L).isEmpty&&(Region.ready .any ops L).all (fun j=>(RW a++RW b).contains j)))&&Iy P N ops false a L Ls&&Iy P N ops false b L Ls|top,.op i g sf x r,L,Ls=>match ops[i]? with
  |none=>false|some o=>RV ops o.guard g&&dT P N o.dst o.op x&&Ls.all (fun t=>!(o.dst==some t.2))&&(match Og x with
   |.pure=>top&&(Region.ready .any ops L).contains i&&Region.free .any ops L i&&Iy P N ops true r (L.setIfInBounds i true) Ls|.ld=>top&&(Region.ready .any ops L).contains i&&Region.free .any ops L i&&(match ZX x with|some s=>!(o.dst==some s)&&Iy P N ops true r (L.setIfInBounds i true) ((i,s)::Ls)|none=>false)
   |.eff=>(!top||((Region.ready .any ops L).contains i&&(Region.ready .any ops L).all (fun j=>j==i)))&&Ls.all (fun t=>sf.contains t.2||WL ops ops.size i t.1)&&Iy P N ops true r (L.setIfInBounds i true) Ls)
def bA(n m:Nat):Array Bool:=((List.range n).map fun i=>m.testBit i).toArray
def Df{α:Type}(n:Nat)(K:Nat->α):α:=match n with|0=>K 0|k+1=>K (k+1)
theorem Gf{α:Type}(n:Nat)(K:Nat->α):Df n K=K n:=by cases n<;>rfl
def AFL(P:Program)(N:Nat)(ops:Array Oper)(top:Bool)(i:Nat)(g:Option (Nat×Bool))(sf:List Nat)(x:XOp)(L:Array Bool)(Ls:List (Nat×Nat)):Bool:=match ops[i]? with
 |none=>false|some o=>RV ops o.guard g&&dT P N o.dst o.op x&&Ls.all (fun t=>!(o.dst==some t.2))&&(match Og x with
  |.pure=>top&&(Region.ready .any ops L).contains i&&Region.free .any ops L i|.ld=>top&&(Region.ready .any ops L).contains i&&Region.free .any ops L i&&(match ZX x with|some s=>!(o.dst==some s)|none=>false)
  |.eff=>(!top||((Region.ready .any ops L).contains i&&(Region.ready .any ops L).all (fun j=>j==i)))&&Ls.all (fun t=>sf.contains t.2||WL ops ops.size i t.1))
def Om(P:Program)(N:Nat)(ops:Array Oper):Bool->Wi->Nat->List (Nat×Nat)->Bool
 |top,.nil,m,_=>top&&(Region.ready .any ops (bA ops.size m)).isEmpty|top,.dr _ r,m,Ls=>Om P N ops top r m Ls&&true|top,.nl _ r,m,Ls=>Om P N ops top r m Ls&&true|top,.both a b,m,Ls=>Om P N ops false a m Ls&&(Om P N ops false b m Ls&&(!top||(!(Region.ready .any ops (bA ops.size m)).isEmpty&&(Region.ready .any ops (bA ops.size m)).all (fun j=>(RW a++RW b).contains j))))|top,.op i g sf x r,m,Ls=>match ZX x with|some s=>Df (m |||2 ^ i) fun m'=>Om P N ops true r m' ((i,s)::Ls)&&AFL P N ops top i g sf x (bA ops.size m) Ls|none=>Df (m |||2 ^ i) fun m'=>Om P N ops true r m' Ls&&AFL P N ops top i g sf x (bA ops.size m) Ls
theorem AdI(n:Nat):bA n 0=Array.replicate n false:=by
 apply Array.ext
 .simp[bA]
 .intro i c e;simp[bA]
theorem AXt(n m i:Nat):(bA n m).setIfInBounds i true=bA n (m |||2 ^ i):=by
 apply Array.ext
 .simp[bA]
 .intro j c e;simp only[bA,List.setIfInBounds_toArray,List.getElem_toArray,List.getElem_set,List.getElem_map,List.getElem_range,Nat.testBit_or,Nat.testBit_two_pow]
  grind
theorem ALq{x:XOp}{s:Nat}(h:ZX x=some s):Og x=.ld:=by
 unfold ZX at h;split at h<;>first|rfl|cases h
theorem NI{P:Program}{N:Nat}{ops:Array Oper}:∀(r:Wi) (top:Bool) (m:Nat) (Ls:List (Nat×Nat)),Om P N ops top r m Ls=true->Iy P N ops top r (bA ops.size m) Ls=true
 |.nil,top,m,Ls,h=>h|.dr _ r,top,m,Ls,h=>by
  simp only[Om,Cd]at h;simpa only[Iy] using NI r top m Ls h
 |.nl _ r,top,m,Ls,h=>by
  simp only[Om,Cd]at h;simpa only[Iy] using NI r top m Ls h
 |.both a b,top,m,Ls,h=>by
  simp only[Om,AF]at h;obtain⟨e,c,q⟩:=h;simp only[Iy,AF];exact⟨⟨q,NI a false m Ls e⟩,NI b false m Ls c⟩
 |.op i g sf x r,top,m,Ls,h=>by
  unfold Om at h;unfold Iy;split at h
  .rename_i s j;rw[Gf,AF]at h;obtain⟨e,c⟩:=h;have e:=NI r true _ _ e;rw[<-AXt]at e;unfold AFL at c;have y:=ALq j;split at c
   .cases c
   .simp only[y,j,AF]at c ⊢;exact⟨c.1,⟨c.2.1,⟨c.2.2,e⟩⟩⟩
  .rename_i j;rw[Gf,AF]at h;obtain⟨e,c⟩:=h;have e:=NI r true _ _ e
   grind[AXt,AFL]
def Ol(ops:Array Oper):Wi->List (Nat×Aq)
 |.nil=>[]|.op i _ _ x r=>(match ops[i]? with|some o=>EF o.op x|none=>[])++Ol ops r
 |.dr _ r=>Ol ops r|.nl _ r=>Ol ops r|.both a b=>Ol ops a++Ol ops b
def codeOk(P:Program)(N:Nat):Code->Pl->Bool|.skip,.skip=>true|.region _ ops d,.region xs _=>!d&&UP P N ops ops.toList xs|.region _ ops d,.RD r _=>d&&P.follows .mixedOrders&&Region.noSelect ops&&decide (JC r<=ops.size)&&Om P N ops true r 0 []|.seq a b,.seq a' b'=>codeOk P N a a'&&codeOk P N b b'|.cond (.tmp c) t e,.cond c' _ _ t' e'=>c==c'&&codeOk P N t t'&&codeOk P N e e'|.block id b,.block id' b'=>id==id'&&codeOk P N b b'|.loop b,.loop b'=>codeOk P N b b'|.exit id,.exit id'=>id==id'|.ret,.ret=>true|.scope b,.scope b'=>codeOk P N b b'|.cond (.const (.bool true)) t _,.scope x=>codeOk P N t x|.cond (.const (.bool false)) _ e,.scope x=>codeOk P N e x|c,.or a b=>codeOk P N c a&&codeOk P N c b|_,.dead=>true|_,_=>false
def EN:Code->Pl->List (Nat×Aq)|.region _ ops _,.region xs _=>TH ops.toList xs|.region _ ops _,.RD r _=>Ol ops r|.seq a b,.seq a' b'=>EN a a'++EN b b'|.cond _ t e,.cond _ _ _ t' e'=>EN t t'++EN e e'|.block _ b,.block _ b'=>EN b b'|.loop b,.loop b'=>EN b b'|.scope b,.scope b'=>EN b b'|.cond (.const (.bool true)) t _,.scope x=>EN t x|.cond (.const (.bool false)) _ e,.scope x=>EN e x|c,.or a b=>EN c a++EN c b|_,_=>[]
def IJ(P:Program):List ResultVar->List G6->Bool| [],[]=>true|.tmp t::rs,.tmp t'::xs=>t==t'&&IJ P rs xs|.cell t ty::rs,.cell t' n::xs=>t==t'&&J7 P ty n&&IJ P rs xs|.tmp t::rs,.bx t'::xs=>t==t'&&IJ P rs xs|.tmp t::rs,.vw t' _::xs=>t==t'&&IJ P rs xs|.cell t ty::rs,.un t' n::xs=>t==t'&&J7 P ty (some n)&&IJ P rs xs|_,_=>false
def kq(P:Program)(fn:Func)(c:Code):Aq->Bool|.mk ms rs body=>decide (ms.length<=fn.ntmps)&&IJ P fn.results.toList rs&&codeOk P fn.ntmps c body&&fn.name != "runtime.NumGoroutine"|.Dw _ _=>false
def AS8(c:Code):Aq->List (Nat×Aq)|.mk _ _ body=>EN c body|.Dw _ _=>[]
inductive Mt(A:Nat->Nat->List Md->Prop)(P:Program):Nat->Aq->Prop|Dw {n id:Nat} {ms:List Md}:A n id ms->Mt A P n (.Dw id ms)|mk {n:Nat} {f:Aq} {fn:Func} {c:Code}:P.funcs[n]?=some fn->fn.body=some c->kq P fn c f=true->(∀p∈AS8 c f,Mt A P p.1 p.2)->Mt A P n f
def Jl:List (Option Nat)->List Value->List Value| [],_=>[]|none::ns,vs=>vs.headD undef::Jl ns (vs.drop 1)|some n::ns,vs=>.agg (vs.take n).toArray::Jl ns (vs.drop n)
def mkV:Sh->List Value->Value|.one,vs=>vs.headD undef|.agg,vs=>.agg vs.toArray|.tup ns,vs=>.tuple (Jl ns vs).toArray|.ptr _,vs=>vs.headD undef|.vw _,vs=>vs.headD undef
structure Fix where
 P:Program
 A:Nat->Nat->List Md->Prop
 R:Nat->Blk
 K:Blk
 RK:∀k b,R k b->K b
 w0:World
 pv:Nat->Value
 β0:Nat->Nat
 N:Nat
structure Gh where
 β:Nat->Nat
 tv:Nat->List Value
 bv:Nat->List Value
 fp:CV->Blk
def Gh.rv(g:Gh):CV->Option Value|.tmp s c=>(g.tv s)[c]?|.cell b c=>(g.bv b)[c]?
def cI(w:World)(B:Blk)(cs:List T)(v:Value):Prop:=
 ∃(a:Addr) (c:Nat->Value),v=.pointer (some a)/\a.spot=none/\∀j x,cs[j]?=some x->B a.block/\w.cell? ⟨a.block,a.off+j,none⟩=some (c j)/\View w B x (c j)
def AUf(w:World)(B:Blk)(cs:List T)(v:Value):Prop:=
 ∃(a:Addr) (c:Nat->Value) (f:Nat->Blk),v=.pointer (some a)/\a.spot=none /\
  ∀j x,cs[j]?=some x->B a.block/\w.cell? ⟨a.block,a.off+j,none⟩=some (c j)/\(∀b,f j b->B b)/\Own w x (c j) (f j)
def Ac6(x:T)(sub:Option (Nat×Nat))(u v:Value):Prop:=
 match sub with
 |none=>v=u|some (lo,n)=>match x with
  |.sl e xs=>(∃blk off len cap off' cap',u=.slice (some ⟨blk,off,none⟩) len cap/\v=.slice (some ⟨blk,off',none⟩) n cap'/\lo+n<=xs.length/\cap'=cap-lo /\
   (cap'≠0->off'=off+lo*e)/\off'<=off+lo*e)\/(u=.slice none 0 0/\v=.slice none 0 0/\xs=[]/\lo=0/\n=0)
  |_=>v=u/\lo=0/\n=0
def FQ(F:Fix)(g:Gh)(w:World):AU->Value->Prop|.t x,v=>Sc x v|.und,v=>v=undef|.vw (.old k) e xs,v=>View w (F.R k) (.sl e xs) v|.vp (.old k) cs,v=>cI w (F.R k) cs v|.bp id off,v=>v=.pointer (some ⟨g.β id,off,none⟩)|_,_=>False
def CZ(S:St)(r:CV):Prop:=∃x,S.at r=some (.ow x)
def AtC(S:St)(g:Gh)(w:World)(r:CV)(p:Option (Nat×Nat))(e:Nat)(xs:List (List T))(v:Value):Prop:=
 match p with
 |none=>True|some (i,j)=>∃e0 rows blk off len cap,S.at r=some (.ow (.sl e0 rows))/\g.rv r=some (.slice (some ⟨blk,off,none⟩) len cap)/\at2 rows i j=some (.sl e xs) /\
  g.fp r blk/\w.cell? ⟨blk,off+i*e0+j,none⟩=some v
def B1(F:Fix)(S:St)(g:Gh)(w:World)(fp:Blk):AU->Value->Prop
 |.ow x,v=>Own w x v fp|.al r sub,v=>∃x u,S.at r=some (.ow x)/\g.rv r=some u/\Ac6 x sub u v|.ep r i j,v=>∃e xs blk off len cap,S.at r=some (.ow (.sl e xs))/\g.rv r=some (.slice (some ⟨blk,off,none⟩) len cap)/\i<xs.length /\
  v=.pointer (some ⟨blk,off+i*e+j,none⟩)
 |.vw (.own r p) e xs,v=>CZ S r/\(∃S',(∀b,S' b->g.fp r b)/\Own w (.sl e xs) v S')/\AtC S g w r p e xs v|.vp (.own r _) cs,v=>CZ S r/\AUf w (g.fp r) cs v|.fn f caps,v=>∃n cv,v=.func (.func n) #[] cv/\Mt F.A F.P n f/\cv.size=caps.length/\∀(i:Nat) (l:AU) (c:Value),caps[i]?=some l->cv[i]?=some c->FQ F g w l c|l,v=>FQ F g w l v
structure Inv(F:Fix)(S:St)(g:Gh)(a:Act)(w:World):Prop where
 C8:∀r l,S.at r=some l->∃v,g.rv r=some v/\B1 F S g w (g.fp r) l v
 tms:∀s e,get S.tm s=some e->s<F.N/\a.tmps.getD s undef=mkV e.sh (g.tv s)/\(g.tv s).length=e.cs.length
 bxs:∀id ls,get S.bx id=some ls->(∃E,w.heap[g.β id]?=some (.cells (g.bv id).toArray E (0,0)))/\(g.bv id).length=ls.length
 dis:∀r r',CZ S r->CZ S r'->r≠r'->∀b,g.fp r b->¬g.fp r' b
 Ft:∀r id,CZ S r->(get S.bx id).isSome->¬g.fp r (g.β id)
 Hr:∀r,CZ S r->∀b,g.fp r b->¬F.K b
 HA:∀id id',(get S.bx id).isSome->(get S.bx id').isSome->g.β id=g.β id'->id=id'
 bxR:∀id,(get S.bx id).isSome->¬F.K (g.β id)
 Fo:∀b,F.K b->w.heap[b]?=F.w0.heap[b]?
 rlt:∀b,F.K b->b<F.w0.heap.size
 still:Still F.w0 w
 defs:a.defers=[]
 tsz:a.tmps.size=F.N
 pin:∀p∈S.pin,a.tmps.getD p undef=F.pv p/\((get S.bx p).isSome->g.β p=F.β0 p)
theorem Inv.size{F:Fix}{S:St}{g:Gh}{a:Act}{w:World}(h:Inv F S g a w):F.w0.heap.size<=w.heap.size:=h.still.size
section tools
variable{F:Fix}{S S':St}{g g':Gh}{a:Act}{w w':World}
theorem View.same{B:Blk}{x:T}{v:Value}(h:View w B x v)(c:∀b,B b->w'.heap[b]?=w.heap[b]?):View w' B x v:=h.mono (fun _ h=>h) c
theorem Mh{b o:Nat}(h:w'.heap[b]?=w.heap[b]?):w'.cell? ⟨b,o,none⟩=w.cell? ⟨b,o,none⟩:=by simp[World.cell?,h]
theorem cI.same{B:Blk}{cs:List T}{v:Value}(h:cI w B cs v)(q:∀b,B b->w'.heap[b]?=w.heap[b]?):cI w' B cs v:=by
 obtain⟨a,c,y,E,G⟩:=h;refine⟨a,c,y,E,fun j x J=>?_⟩;obtain⟨e,H,I⟩:=G j x J;exact⟨e,by rw[Mh (q _ e),H],I.same q⟩
theorem AUf.same{B B':Blk}{cs:List T}{v:Value}(h:AUf w B cs v)(hB:∀b,B b->B' b)(E:∀b,B b->w'.heap[b]?=w.heap[b]?):AUf w' B' cs v:=by
 obtain⟨a,c,f,G,H,I⟩:=h;refine⟨a,c,f,G,H,fun j x O=>?_⟩;obtain⟨q,J,y,L⟩:=I j x O;exact⟨hB _ q,by rw[Mh (E _ q),J],fun b e=>hB b (y b e),L.frame fun b e=>E b (y b e)⟩
theorem FQ.tr{l:AU}{v:Value}(h:FQ F g w l v)(c:∀id off,l=.bp id off->g'.β id=g.β id)(hR:∀b,F.K b->w'.heap[b]?=w.heap[b]?) :
 FQ F g' w' l v:=by
 unfold FQ at h ⊢;split at h<;>simp_all
 .exact h.same fun b c=>hR b (F.RK _ b c)
 .exact h.same fun b c=>hR b (F.RK _ b c)
theorem B1.tr{fp:Blk}{l:AU}{v:Value}(h:B1 F S g w fp l v)
 (O:∀r,l.CA=some r->S'.at r=S.at r/\g'.rv r=g.rv r/\(∀b,g.fp r b->g'.fp r b)/\∀b,g.fp r b->w'.heap[b]?=w.heap[b]?)
 (I:∀id∈names l,g'.β id=g.β id) (hF:∀b,fp b->w'.heap[b]?=w.heap[b]?) (hR:∀b,F.K b->w'.heap[b]?=w.heap[b]?):B1 F S' g' w' fp l v:=by
 match l,h with
 |.ow x,h=>exact Own.frame h hF|.al r sub,⟨x,u,y,E,G⟩=>
  obtain⟨B,H,_,_⟩:=O r rfl;exact⟨x,u,B.trans y,H.trans E,G⟩
 |.ep r i j,⟨e,xs,blk,off,len,cap,y,E,G,X⟩=>
  obtain⟨B,H,_,_⟩:=O r rfl;exact⟨e,xs,blk,off,len,cap,B.trans y,H.trans E,G,X⟩
 |.vw (.own r p) e xs,⟨⟨x,Q⟩,⟨S0,y,E⟩,G⟩=>
  obtain⟨B,H,J,L⟩:=O r rfl;refine⟨⟨x,B.trans Q⟩,⟨S0,fun b I=>J b (y b I),E.frame fun b I=>L b (y b I)⟩,?_⟩;cases p with
  |none=>trivial|some q=>
   obtain⟨i,j⟩:=q;obtain⟨e0,rows,blk,off,len,cap,k1,k2,k3,Z,k5⟩:=G;exact⟨e0,rows,blk,off,len,cap,B.trans k1,H.trans k2,k3,J _ Z,(Mh (L _ Z)).trans k5⟩
 |.vp (.own r _) cs,⟨⟨x,Q⟩,y⟩=>
  obtain⟨B,H,J,L⟩:=O r rfl;exact⟨⟨x,B.trans Q⟩,y.same J L⟩
 |.fn f caps,⟨n,cv,y,E,G,X⟩=>
  refine⟨n,cv,y,E,G,fun i l c Y hc=>(X i l c Y hc).tr ?_ hR⟩;rintro id off rfl;refine I id ?_;simp only[names,List.mem_filterMap];exact⟨_,Ar Y,rfl⟩
 |.t x,h=>exact FQ.tr (g:=g) (g':=g') (l:=.t x) h (by simp) hR|.und,h=>exact FQ.tr (g:=g) (g':=g') (l:=.und) h (by simp) hR|.vw (.old k) e xs,h=>exact FQ.tr (g:=g) (g':=g') (l:=.vw (.old k) e xs) h (by simp) hR|.vp (.old k) cs,h=>exact FQ.tr (g:=g) (g':=g') (l:=.vp (.old k) cs) h (by simp) hR|.bp id off,h=>exact FQ.tr (g:=g) (g':=g') (l:=.bp id off) h (by rintro _ _ ⟨⟩;exact I id (by simp[names])) hR
theorem B1.top{fp:Blk}{v:Value}:B1 F S g w fp (.t .top) v:=trivial
theorem B1.alive{fp:Blk}{l:AU}{v:Value}(h:B1 F S g w fp l v){r:CV}(c:l.CA=some r):CZ S r:=by
 match l,h with
 |.al B sub,⟨x,u,y,E,G⟩=>cases c;exact⟨x,y⟩
 |.ep B i j,⟨e,xs,blk,off,len,cap,y,E,G,H⟩=>cases c;exact⟨_,y⟩
 |.vw (.own B _) e xs,⟨q,_⟩=>cases c;exact q
 |.vp (.own B _) cs,⟨q,_⟩=>cases c;exact q
end tools
end Lv
namespace Lv
open Go
section lists
variable{α:Type}
theorem Fy(l:List (Nat×α))(s k:Nat)(a:α):get (put l s a) k=if k=s then some a else get l k:=by
 induction l with
 |nil=>
  grind[put,get]
 |cons p r c=>
  grind[put,get]
theorem FK(q:AU->Bool)(l:List (Nat×Ent))(s:Nat):get (MZ q l) s=(get l s).map fun e=>⟨e.sh,EU q e.cs⟩:=by
 induction l with
 |nil=>rfl|cons p r c=>obtain⟨k,e⟩:=p;simp only[MZ,get,c];split<;>rfl
theorem DP(q:AU->Bool)(l:List (Nat×List AU))(s:Nat):get (MY q l) s=(get l s).map (EU q):=by
 induction l with
 |nil=>rfl|cons p r c=>obtain⟨k,e⟩:=p;simp only[MY,get,c];split<;>rfl
theorem Ha(ks:List Nat)(l:List (Nat×α))(s:Nat):get (Gw ks l) s=if s∈ks then get l s else none:=by
 induction l with
 |nil=>simp[Gw,get]|cons p r c=>
  grind[Gw,get]
theorem Mk(ks:List Nat)(l:List (Nat×α))(s:Nat):get (KX ks l) s=if s∈ks then none else get l s:=by
 induction l with
 |nil=>simp[KX,get]|cons p r c=>
  grind[KX,get]
theorem Gg(q:AU->Bool)(ls:List AU)(c:Nat):(EU q ls)[c]?=(ls[c]?).map fun l=>if q l then .t .top else l:=by
 induction ls generalizing c with
 |nil=>simp[EU]|cons l ls e=>cases c<;>simp[EU,e]
theorem FL(q:AU->Bool)(ls:List AU):(EU q ls).length=ls.length:=by
 induction ls with
 |nil=>rfl|cons l ls c=>simp[EU,c]
end lists
theorem AMX{l:AU}{b c:Nat}(h:l.CA=some (.cell b c)):l.NW=some b:=by
 match l,h with
 |.al _ _,h=>cases h;rfl
 |.ep _ _ _,h=>cases h;rfl
 |.vw (.own _ _) _ _,h=>cases h;rfl
 |.vp (.own _ _) _,h=>cases h;rfl
section at_
variable{S:St}
theorem IY(q:AU->Bool)(r:CV):(S.kill q).at r=(S.at r).map fun l=>if q l then .t .top else l:=by
 cases r with
 |tmp s c=>
  grind[St.at,St.kill,FK,get,Gg]
 |cell b c=>
  grind[St.at,St.kill,DP,get,Gg]
theorem Gp{r:CV}{J:AU}(h:S.at r=some J)(l:AU)(B:CV):(S.B3 r l).at B=if B=r then some l else S.at B:=by
 cases r with
 |tmp s c=>
  simp only[St.at,St.B3]at h ⊢;cases j:get S.tm s with
  |none=>simp[j]at h|some e=>
   simp only[j]at h ⊢;cases B with
   |tmp G q=>
    simp only[Fy];by_cases y:G=s
    .subst y;simp only[if_true,j];have E:=(AS.1 h).1;rw[D5];by_cases I:c=q<;>simp_all[eq_comm]
    .simp[y]
   |cell b q=>simp
 |cell b c=>
  simp only[St.at,St.B3]at h ⊢;cases j:get S.bx b with
  |none=>simp[j]at h|some e=>
   simp only[j]at h ⊢;cases B with
   |tmp G q=>simp|cell H q=>
    simp only[Fy];by_cases y:H=b
    .subst y;simp only[if_true,j];have E:=(AS.1 h).1;rw[D5];by_cases I:c=q<;>simp_all[eq_comm]
    .simp[y]
theorem Q9{r:CV}{l:AU}{s:Nat}{j:Ent}(h:get (S.B3 r l).tm s=some j):∃e,get S.tm s=some e/\j.sh=e.sh/\j.cs.length=e.cs.length:=by
 cases r with
 |tmp q c=>
  grind[St.B3,Fy]
 |cell b c=>
  grind[St.B3]
theorem Ko{r:CV}{l:AU}{s:Nat}{ls':List AU}(h:get (S.B3 r l).bx s=some ls'):∃ls,get S.bx s=some ls/\ls'.length=ls.length:=by
 cases r with
 |tmp e c=>
  grind[St.B3]
 |cell b c=>
  grind[St.B3,Fy]
theorem IQ{r:CV}{l:AU}:(S.B3 r l).pin=S.pin:=by
 cases r<;>simp only[St.B3]<;>split<;>rfl
theorem Dz{r:CV}{l:AU}{s:Nat}:(get (S.B3 r l).bx s).isSome=(get S.bx s).isSome:=by
 cases r with
 |tmp e c=>simp only[St.B3];split<;>rfl|cell b c=>
  grind[St.B3,Fy]
end at_
section moves
variable{F:Fix}{S S':St}{g g':Gh}{a a':Act}{w w':World}
theorem Inv.weaken(h:Inv F S g a w)(B:∀s Q,get S'.tm s=some Q->∃e,get S.tm s=some e/\Q.sh=e.sh/\Q.cs.length=e.cs.length)
 (X:∀id ls',get S'.bx id=some ls'->∃ls,get S.bx id=some ls/\ls'.length=ls.length)
 (h3:∀r l',S'.at r=some l'->l'=.t .top/\(S.at r).isSome\/(S.at r=some l'/\∀O x,l'.CA=some O->S.at O=some (.ow x)->S'.at O=some (.ow x)))
 (h4:S'.pin=S.pin):Inv F S' g a w:=by
 have j:∀r,CZ S' r->CZ S r:=by
  rintro r ⟨x,Y⟩;rcases h3 r _ Y with ⟨h,_⟩|⟨h,_⟩
  .cases h
  .exact⟨x,h⟩
 have c:∀id,(get S'.bx id).isSome->(get S.bx id).isSome:=by
  intro id q;obtain⟨ls',hls⟩:=Bs.1 q;obtain⟨ls,h,_⟩:=X _ _ hls;simp[h]
 refine { C8:=?_,tms:=?_,bxs:=?_,dis:=?_,Ft:=?_,Hr:=?_,HA:=?_,bxR:=?_,Fo:=h.Fo,rlt:=h.rlt,still:=h.still,defs:=h.defs,tsz:=h.tsz,pin:=?_}
 .intro r l' H;rcases h3 r l' H with ⟨rfl,L⟩|⟨L,y⟩
  .obtain⟨l,H⟩:=Bs.1 L;obtain⟨v,hv,_⟩:=h.C8 _ _ H;exact⟨v,hv,B1.top⟩
  .obtain⟨v,hv,I⟩:=h.C8 _ _ L;refine⟨v,hv,I.tr ?_ (fun _ _=>rfl) (fun _ _=>rfl) fun _ _=>rfl⟩;intro O J;obtain⟨x,Y⟩:=I.alive J;exact⟨(y O x J Y).trans Y.symm,rfl,fun _ h=>h,fun _ _=>rfl⟩
 .intro s Q he;obtain⟨e,Z,he2,he3⟩:=B _ _ he;obtain⟨E,G,h7⟩:=h.tms _ _ Z;exact⟨E,he2▸G,h7.trans he3.symm⟩
 .intro id ls' H;obtain⟨ls,hl1,hl2⟩:=X _ _ H;obtain⟨E,G⟩:=h.bxs _ _ hl1;exact⟨E,G.trans hl2.symm⟩
 .exact fun r r' y hr' hne=>h.dis r r' (j _ y) (j _ hr') hne
 .exact fun r id y q=>h.Ft r id (j _ y) (c _ q)
 .exact fun r y=>h.Hr r (j _ y)
 .exact fun id id' B X=>h.HA id id' (c _ B) (c _ X)
 .exact fun id B=>h.bxR id (c _ B)
 .intro p hp;obtain⟨E,G⟩:=h.pin p (h4▸hp);exact⟨E,fun L=>G (c _ L)⟩
theorem Inv.kill(h:Inv F S g a w)(q:AU->Bool)(c:∀x,q (.ow x)=false):Inv F (S.kill q) g a w:=by
 refine h.weaken ?_ ?_ ?_ rfl
 .grind[St.kill,FK,Option.map_eq_some_iff,FL]
 .grind[St.kill,DP,Option.map_eq_some_iff,FL]
 grind[IY,Option.map_eq_some_iff]
theorem Inv.out(h:Inv F S g a w){r:CV}{x:T}(j:S.at r=some (.ow x)):Inv F (S.out r) g a w:=by
 have e:∀c,(S.out r).at c=(if c=r then some (.t .top) else S.at c).map fun l=>if Oj r l then .t .top else l:=by
  intro c;rw[St.out,IY,Gp j]
 refine h.weaken ?_ ?_ ?_ ?_
 .grind[St.out,St.kill,FK,Option.map_eq_some_iff,Q9,FL]
 .grind[St.out,St.kill,DP,Option.map_eq_some_iff,Ko,FL]
 .grind[Option.map_eq_some_iff,Oj,AU.CA]
 .rw[St.out];exact IQ
theorem J1{r j:CV}{x:T}(B:S.at r=some (.ow x)):CZ (S.out r) j->j≠r/\CZ S j:=by
 rintro⟨y,q⟩;rw[St.out,IY,Gp B,AQ]at q;obtain⟨l,e,c⟩:=q;split at c
 .cases c
 .subst c;split at e
  .cases e
  .rename_i h;exact⟨h,y,e⟩
theorem Inv.clean(h:Inv F S g a w)(ks:List Nat):Inv F (S.clean ks) g a w:=by
 have J:∀r l',(S.clean ks).at r=some l'->∃l,S.at r=some l/\l'=(if JJ ks l then .t .top else l)/\(match r with|.tmp s _=>s∈ks|.cell b _=>b∈ks):=by
  grind[St.at,St.clean,FK,Ha,get,Gg,Option.map_eq_some_iff,DP]
 have y:∀r x,S.at r=some (.ow x)->(match r with|.tmp s _=>s∈ks|.cell b _=>b∈ks)->(S.clean ks).at r=some (.ow x):=by
  intro r x q I;cases r with
  |tmp s c=>
   simp only[St.at,St.clean,FK,Ha]at q I ⊢;simp only[I,if_true];cases B:get S.tm s with
   |none=>simp[B]at q|some e=>simp only[B]at q;simp[Gg,q,JJ,M8,AU.CA,AU.NW]
  |cell b c=>
   simp only[St.at,St.clean,DP,Ha]at q I ⊢;simp only[I,if_true];cases B:get S.bx b with
   |none=>simp[B]at q|some e=>simp only[B]at q;simp[Gg,q,JJ,M8,AU.CA,AU.NW]
 refine h.weaken ?_ ?_ ?_ rfl
 .intro s Q j;simp only[St.clean,FK,Ha,AQ]at j;obtain⟨e,j,rfl⟩:=j;split at j
  .exact⟨e,j,rfl,FL _ _⟩
  .cases j
 .intro id ls' G;simp only[St.clean,DP,Ha,AQ]at G;obtain⟨e,j,rfl⟩:=G;split at j
  .exact⟨e,j,FL _ _⟩
  .cases j
 .intro r l' G;obtain⟨l,L,rfl,X⟩:=J r l' G;split
  .exact .inl ⟨rfl,by simp[L]⟩
  .rename_i H;refine .inr ⟨L,fun O x E q=>y O x q ?_⟩;cases O with
   |tmp s c=>
    simp only[JJ,E,Cx,not_or,decide_eq_true_eq,Decidable.not_not]at H;exact H.1
   |cell b c=>
    have Y:l.NW=some b:=AMX E;have:M8 ks l=false:=by
     simp only[JJ,Cx,not_or]at H;simpa using H.2
    cases l<;>simp_all[M8,AU.CA]
end moves
end Lv
namespace Lv
open Go
section
variable{F:Fix}{S S':St}{g g':Gh}{a a':Act}{w w':World}
def WN(F:Fix)(S:St)(g:Gh)(cs:List AU)(nf:Nat->Blk):Prop:=
 ∀c x,cs[c]?=some (.ow x)->(∀b,nf c b->¬F.K b)/\(∀r,CZ S r->∀b,nf c b->¬g.fp r b)/\(∀id,(get S.bx id).isSome->¬nf c (g.β id)) /\
  ∀c' x',cs[c']?=some (.ow x')->c≠c'->∀b,nf c b->¬nf c' b
def Cells(F:Fix)(S:St)(g:Gh)(w:World)(cs:List AU)(vs:List Value)(nf:Nat->Blk):Prop:=
 vs.length=cs.length/\(∀c l,cs[c]?=some l->∃v,vs[c]?=some v/\B1 F S g w (nf c) l v)/\WN F S g cs nf
theorem ANN{d:Nat}{e:Ent}(r:CV):({ S with tm:=put S.tm d e}:St).at r=match r with|.tmp s c=>if s=d then e.cs[c]? else S.at (.tmp s c)|.cell b c=>S.at (.cell b c):=by
 grind[St.at,Fy]
def Gh.NJ(g:Gh)(d:Nat)(vs:List Value)(nf:Nat->Blk):Gh:=
 { g with tv:=fun s=>if s=d then vs else g.tv s,fp:=fun r=>match r with|.tmp s c=>if s=d then nf c else g.fp (.tmp s c)|.cell b c=>g.fp (.cell b c)}
theorem AL8{d:Nat}{l:AU}(h:E4 d l=false){r:CV}(e:l.CA=some r):∀c,r≠.tmp d c:=by
 rintro c rfl;simp[E4,e]at h
theorem Inv.put(h:Inv F S g a w){d:Nat}{e:Ent}{vs:List Value}{nf:Nat->Blk}(hd:d<F.N)(hp:d∉S.pin)
 (hfree:∀r l,S.at r=some l->(∀c,r≠.tmp d c)->E4 d l=false) (hfe:∀l∈e.cs,E4 d l=false) (hc:Cells F S g w e.cs vs nf) :
 Inv F { S with tm:=put S.tm d e} (g.NJ d vs nf) (a.put (some d) (mkV e.sh vs)) w:=by
 obtain⟨hlen,hl,G⟩:=hc;have hrv:∀r,(∀c,r≠.tmp d c)->(g.NJ d vs nf).rv r=g.rv r:=by
  intro r j;cases r with
  |tmp s c=>
   have:s≠d:=by rintro rfl;exact j c rfl
   simp[Gh.rv,Gh.NJ,this]
  |cell b c=>rfl
 have H:∀r,(∀c,r≠.tmp d c)->(g.NJ d vs nf).fp r=g.fp r:=by
  intro r j;cases r with
  |tmp s c=>
   have:s≠d:=by rintro rfl;exact j c rfl
   simp[Gh.NJ,this]
  |cell b c=>rfl
 have hat:∀r,(∀c,r≠.tmp d c)->({ S with tm:=Lv.put S.tm d e}:St).at r=S.at r:=by
  intro r j;rw[ANN];cases r with
  |tmp s c=>
   have:s≠d:=by rintro rfl;exact j c rfl
   simp[this]
  |cell b c=>rfl
 have tr:∀{fp:Blk} {l:AU} {v:Value},E4 d l=false->B1 F S g w fp l v->B1 F { S with tm:=Lv.put S.tm d e} (g.NJ d vs nf) w fp l v:=by
  intro fp l v hn Q;refine Q.tr ?_ (fun _ _=>rfl) (fun _ _=>rfl) fun _ _=>rfl
  intro r j;have E:=AL8 hn j;exact⟨hat r E,hrv r E,fun b q=>(H r E).symm▸q,fun _ _=>rfl⟩
 have tmpd:∀r:CV,(∃c,r=CV.tmp d c)\/∀c,r≠CV.tmp d c:=by
  intro r;by_cases L:∃c,r=.tmp d c
  .exact .inl L
  .exact .inr fun c hc=>L ⟨c,hc⟩
 have y:∀c,CZ { S with tm:=Lv.put S.tm d e} (.tmp d c)->∃x,e.cs[c]?=some (.ow x):=by
  rintro c ⟨x,L⟩;rw[ANN]at L;exact⟨x,by simpa using L⟩
 have O:∀r,(∀c,r≠.tmp d c)->CZ { S with tm:=Lv.put S.tm d e} r->CZ S r:=by
  rintro r j ⟨x,L⟩;exact⟨x,(hat r j)▸L⟩
 have fpd:∀c,(g.NJ d vs nf).fp (.tmp d c)=nf c:=fun c=>by simp[Gh.NJ]
 refine { C8:=?_,tms:=?_,bxs:=h.bxs,dis:=?_,Ft:=?_,Hr:=?_,HA:=h.HA,bxR:=h.bxR,Fo:=h.Fo,rlt:=h.rlt,still:=h.still,defs:=h.defs,tsz:=?_,pin:=?_}
 .intro r l I;rcases tmpd r with ⟨c,rfl⟩|j
  .rw[ANN]at I;simp only[if_true]at I;obtain⟨v,hv,Q⟩:=hl c l I;refine⟨v,by simpa[Gh.rv,Gh.NJ] using hv,?_⟩;rw[fpd];exact tr (hfe l (Ar I)) Q
  .rw[hat r j]at I;obtain⟨v,hv,Q⟩:=h.C8 r l I;refine⟨v,(hrv r j).trans hv,?_⟩;rw[H r j];exact tr (hfree r l I j) Q
 .intro s e' he;simp only[Fy]at he;by_cases hs:s=d
  .subst hs;simp only[if_true,AE]at he;subst he;refine⟨hd,?_,by simpa[Gh.NJ] using hlen⟩;simp[Act.put,Array.getD,Gh.NJ,h.tsz,hd]
  .simp only[if_neg hs]at he;obtain⟨J,X,h3⟩:=h.tms s e' he;refine⟨J,?_,by simpa[Gh.NJ,hs] using h3⟩;have:({ a with tmps:=a.tmps.setIfInBounds d (mkV e.sh vs)}:Act).tmps.getD s undef=a.tmps.getD s undef:=by
    simp[El,Ne.symm hs]
   simpa[Act.put,Gh.NJ,hs] using this.trans X
 .intro r Z j Y E b q B;rcases tmpd r with ⟨c,rfl⟩|J
  .obtain⟨x,L⟩:=y c j;rw[fpd]at q;rcases tmpd Z with ⟨c',rfl⟩|X
   .obtain⟨x',hx'⟩:=y c' Y;rw[fpd]at B;exact(G c x L).2.2.2 c' x' hx' (by rintro rfl;exact E rfl) b q B
   .rw[H Z X]at B;exact(G c x L).2.1 Z (O Z X Y) b q B
  .rw[H r J]at q;rcases tmpd Z with ⟨c',rfl⟩|X
   .obtain⟨x',hx'⟩:=y c' Y;rw[fpd]at B;exact(G c' x' hx').2.1 r (O r J j) b B q
   .rw[H Z X]at B;exact h.dis r Z (O r J j) (O Z X Y) E b q B
 .intro r id j hid q;rcases tmpd r with ⟨c,rfl⟩|J
  .obtain⟨x,L⟩:=y c j;rw[fpd]at q;exact(G c x L).2.2.1 id hid q
  .rw[H r J]at q;exact h.Ft r id (O r J j) hid q
 .intro r j b q;rcases tmpd r with ⟨c,rfl⟩|J
  .obtain⟨x,L⟩:=y c j;rw[fpd]at q;exact(G c x L).1 b q
  .rw[H r J]at q;exact h.Hr r (O r J j) b q
 .simp[Act.put,h.tsz]
 .intro p hpp;obtain⟨J,X⟩:=h.pin p hpp;have E:d≠p:=by rintro rfl;exact hp hpp
  refine⟨?_,X⟩;simp only[Act.put,El,Array.getElem?_setIfInBounds,if_neg E];rw[El]at J;exact J
theorem Cells.kill{cs:List AU}{vs:List Value}{nf:Nat->Blk}(h:Cells F S g w cs vs nf)(q:AU->Bool)(X:∀x,q (.ow x)=false) :
 Cells F (S.kill q) g w (EU q cs) vs nf:=by
 obtain⟨I,J,L⟩:=h;have O:∀r,CZ (S.kill q) r->CZ S r:=by
  rintro r ⟨x,j⟩;rw[IY,AQ]at j;obtain⟨l,y,e⟩:=j;split at e
  .cases e
  .exact⟨x,e▸y⟩
 have B:∀r x,S.at r=some (.ow x)->(S.kill q).at r=some (.ow x):=by
  intro r x j;rw[IY,j];simp[X]
 have Q:∀id,(get (S.kill q).bx id).isSome->(get S.bx id).isSome:=by
  intro id;simp[St.kill,DP]
 have H:∀(c:Nat) (x:T),(EU q cs)[c]?=some (AU.ow x)->cs[c]?=some (AU.ow x):=by
  intro c x j;rw[Gg,AQ]at j;obtain⟨l,y,e⟩:=j;split at e
  .cases e
  .exact e▸y
 refine⟨I.trans (FL _ _).symm,?_,?_⟩
 .intro c l y;rw[Gg,AQ]at y;obtain⟨l0,G,rfl⟩:=y;obtain⟨v,Z,E⟩:=J c l0 G;refine⟨v,Z,?_⟩;split
  .exact B1.top
  .refine E.tr ?_ (fun _ _=>rfl) (fun _ _=>rfl) fun _ _=>rfl
   intro r Y;obtain⟨x,j⟩:=E.alive Y;exact⟨(B r x j).trans j.symm,rfl,fun _ h=>h,fun _ _=>rfl⟩
 .intro c x j;obtain⟨h4,h5,h6,h7⟩:=L c x (H c x j)
  grind
theorem Inv.ED(h:Inv F S g a w){d:Nat}{e:Ent}{vs:List Value}{nf:Nat->Blk}(j:S.ED d e=some S')(O:d<F.N)(I:Cells F S g w e.cs vs nf) :
 ∃g',Inv F S' g' (a.put (some d) (mkV e.sh vs)) w:=by
 unfold St.ED at j;split at j
 .cases j
 .rename_i Q;split at j
  .rename_i Z;cases j;have E:∀{l:AU} {fp:Blk} {v:Value},B1 F S g w fp l v->E4 d l=false:=by
    intro l fp v q;cases H:l.CA with
    |none=>simp[E4,H]|some r=>
     obtain⟨x,hx⟩:=q.alive H;cases r with
     |tmp s c=>
      have:s≠d:=by rintro rfl;simp[St.at,Z]at hx
      simp[E4,H,this]
     |cell b c=>simp[E4,H]
   refine⟨_,h.put O Q ?_ ?_ I⟩
   .intro r l B _;obtain⟨v,_,q⟩:=h.C8 r l B;exact E q
   .intro l J;obtain⟨c,y⟩:=Bo J;obtain⟨v,_,q⟩:=I.2.1 c l y;exact E q
  .cases j;have X:∀x,E4 d (.ow x)=false:=fun x=>rfl
   have Y:=I.kill (E4 d) X;have G:∀l,E4 d (if E4 d l then .t .top else l)=false:=by
    intro l;split
    .rfl
    .simp_all
   refine⟨_,(h.kill (E4 d) X).put (e:=⟨e.sh,EU (E4 d) e.cs⟩) O Q ?_ ?_ Y⟩
   .intro r l B _;rw[IY,AQ]at B;obtain⟨L,_,rfl⟩:=B;exact G L
   .intro l J;obtain⟨c,y⟩:=Bo J;rw[Gg,AQ]at y;obtain⟨L,_,rfl⟩:=y;exact G L
theorem B1.any{fp fp':Blk}{l:AU}{v:Value}(c:∀x,l≠.ow x)(h:B1 F S g w fp l v):B1 F S g w fp' l v:=by
 match l,h with
 |.ow x,h=>exact(c x rfl).elim|.al _ _,h=>exact h|.ep _ _ _,h=>exact h|.vw (.own _ _) _ _,h=>exact h|.vw (.old _) _ _,h=>exact h|.vp (.own _ _) _,h=>exact h|.vp (.old _) _,h=>exact h|.fn _ _,h=>exact h|.t _,h=>exact h|.und,h=>exact h|.bp _ _,h=>exact h
theorem Cells.free{cs:List AU}{vs:List Value}(e:vs.length=cs.length)(h:∀(c:Nat) (l:AU),cs[c]?=some l->∃v,vs[c]?=some v/\B1 F S g w (fun _=>False) l v)
 (j:∀x,AU.ow x∉cs):Cells F S g w cs vs fun _ _=>False:=
 ⟨e,h,fun _ x q=>(j x (Ar q)).elim⟩
theorem Inv.grow(h:Inv F S g a w)(O:Still w w')(G:∀b,b<w.heap.size->w'.heap[b]?=w.heap[b]?):Inv F S g a w':=by
 have hR:∀b,F.K b->w'.heap[b]?=w.heap[b]?:=fun b e=>G b (BY (h.rlt b e) h.size)
 have j:∀r,CZ S r->∀b,g.fp r b->w'.heap[b]?=w.heap[b]?:=by
  rintro r ⟨x,H⟩ b e;obtain⟨v,_,c⟩:=h.C8 r _ H;exact G b (Own.lt c b e)
 refine { C8:=?_,tms:=h.tms,bxs:=?_,dis:=h.dis,Ft:=h.Ft,Hr:=h.Hr,HA:=h.HA,bxR:=h.bxR,Fo:=?_,rlt:=h.rlt,still:=h.still.trans O,defs:=h.defs,tsz:=h.tsz,pin:=h.pin}
 .intro r l y;obtain⟨v,J,c⟩:=h.C8 r l y;by_cases q:∃x,l=.ow x
  .obtain⟨x,rfl⟩:=q;exact⟨v,J,Own.frame c (j r ⟨x,y⟩)⟩
  .have I:∀x,l≠.ow x:=fun x H=>q ⟨x,H⟩
   exact⟨v,J,B1.any I ((B1.any (fp':=fun _=>False) I c).tr (S':=S) (g':=g) (w':=w') (fun Q B=>⟨rfl,rfl,fun _ h=>h,j Q (c.alive B)⟩) (fun _ _=>rfl) (fun _ h=>h.elim) hR)⟩
 .intro id ls y;obtain⟨⟨E,hE⟩,L⟩:=h.bxs id ls y;exact⟨⟨E,(G _ (BB.1 hE).1).trans hE⟩,L⟩
 .intro b e;exact(hR b e).trans (h.Fo b e)
theorem Inv.drawn(h:Inv F S g a w)(n:Nat):Inv F S g a { w with drawn:=n}:=h.grow (Still.drawn n) fun _ _=>rfl
end
section
variable{F:Fix}{S S':St}{g g':Gh}{a a':Act}{w w':World}
theorem Vz{x:T}{u v:Value}{fp:Blk}{sub:Option (Nat×Nat)}(h:Own w x u fp)(j:Ac6 x sub u v):∃S0:Blk,(∀b,S0 b->fp b)/\Own w (AAR sub x) v S0:=by
 cases sub with
 |none=>
  simp only[Ac6]at j;subst j;exact⟨fp,fun _ h=>h,by cases x<;>exact h⟩
 |some p=>
  obtain⟨lo,n⟩:=p;cases x with
  |sl e xs=>
   simp only[Ac6]at j;obtain⟨blk,off,len,cap,off',cap',rfl,rfl,q,y,E,G⟩|⟨rfl,rfl,rfl,rfl,rfl⟩:=j
   case inr=>exact⟨fp,fun _ h=>h,by simpa[AAR,KQ] using h⟩
   have B:len=xs.length/\len<=cap:=by
    cases h with
    |sc h _ _=>exact h.elim|sl c f q y=>exact⟨q,y⟩
   exact h.sub (lo:=lo) (n:=n) (by omega) (by omega) (by omega) E G
  |top=>obtain⟨rfl,_⟩:=j;exact⟨fp,fun _ h=>h,h⟩
  |int k n=>obtain⟨rfl,_⟩:=j;exact⟨fp,fun _ h=>h,h⟩
  |bool b=>obtain⟨rfl,_⟩:=j;exact⟨fp,fun _ h=>h,h⟩
  |str s=>obtain⟨rfl,_⟩:=j;exact⟨fp,fun _ h=>h,h⟩
  |nil=>obtain⟨rfl,_⟩:=j;exact⟨fp,fun _ h=>h,h⟩
  |np=>obtain⟨rfl,_⟩:=j;exact⟨fp,fun _ h=>h,h⟩
  |un=>obtain⟨rfl,_⟩:=j;exact⟨fp,fun _ h=>h,h⟩
  |mp ks=>obtain⟨rfl,_⟩:=j;exact⟨fp,fun _ h=>h,h⟩
theorem APG{r:CV}{x:T}(h:S.at r=some (.ow x)){e:CV}{y:T}(c:e≠r)(j:S.at e=some (.ow y)):(S.out r).at e=some (.ow y):=by
 rw[St.out,IY,Gp h,if_neg c,j];simp[Oj,AU.CA]
theorem mS{r:CV}{id:Nat}:(get (S.out r).bx id).isSome->(get S.bx id).isSome:=by
 grind[St.out,St.kill,DP,Option.isSome_map,Dz]
theorem AFm{r:CV}:(S.out r).pin=S.pin:=by rw[St.out];exact IQ
theorem B1.out{fp:Blk}{l:AU}{v:Value}(h:B1 F S g w fp l v){r:CV}{x:T}(j:S.at r=some (.ow x))(e:l.CA≠some r):B1 F (S.out r) g w fp l v:=by
 refine h.tr ?_ (fun _ _=>rfl) (fun _ _=>rfl) fun _ _=>rfl
 intro B c;obtain⟨y,q⟩:=h.alive c
 grind[APG]
structure WO(F:Fix)(S S':St)(g:Gh)(a:Act)(w:World):Prop where
 inv:Inv F S' g a w
 same:∀r x,S'.at r=some (.ow x)->S.at r=some (.ow x)
 bx:∀id,(get S'.bx id).isSome->(get S.bx id).isSome
 pin:S'.pin=S.pin
theorem WO.al(h:WO F S S' g a w):∀r,CZ S' r->CZ S r:=fun r ⟨x,c⟩=>⟨x,h.same r x c⟩
theorem ym{r c:CV}{x y:T}(e:S.at r=some (.ow x))(h:(S.out r).at c=some (.ow y)):S.at c=some (.ow y):=by
 grind[St.out,IY,Gp,Option.map_eq_some_iff]
theorem Acd{ls ls':List AU}{vs:List Value}(h:Inv F S g a w)(hn:∀x,AU.ow x∉ls)(E:vs.length=ls.length)
 (hok:∀(c:Nat) (l:AU),ls[c]?=some l->∃v,vs[c]?=some v/\B1 F S g w (fun _=>False) l v) (htk:Q8 ls=true) (J:Kf S ls=some (S',ls')) :
 WO F S S' g a w/\(∀fp l v,B1 F S g w fp l v->(∀r sub,AU.al r sub∈ls->l.CA≠some r)->B1 F S' g w fp l v) /\
 ∃nf:Nat->Blk,Cells F S' g w ls' vs nf/\∀c x,ls'[c]?=some (.ow x)->∃r,CZ S r/\∀b,nf c b->g.fp r b:=by
 induction ls generalizing S S' ls' vs with
 |nil=>
  simp only[Kf,AE,A5]at J;obtain⟨rfl,rfl⟩:=J;refine⟨⟨h,fun _ _ h=>h,fun _ h=>h,rfl⟩,fun _ _ _ h _=>h,fun _ _=>False,⟨E,?_,?_⟩,?_⟩
  .intro c l hl;simp at hl
  .intro c x q;simp at q
  .intro c x q;simp at q
 |cons l ls ih=>
  obtain⟨v,vs,rfl⟩:∃v vs',vs=v::vs':=by cases vs with|nil=>simp at E|cons v vs=>exact⟨v,vs,rfl⟩
  simp only[AH,Hj]at E;simp only[Q8,AF,List.all_eq_true,Bool.not_eq_true',Iq,decide_eq_false_iff_not]at htk;obtain⟨htk1,htk2⟩:=htk;have hn':∀x,AU.ow x∉ls:=fun x q=>hn x (A3 _ q)
  have hl0:B1 F S g w (fun _=>False) l v:=by
   obtain⟨v',I,Q⟩:=hok 0 l rfl;simp only[AP,AE]at I;exact I▸Q
  by_cases hal:∃r sub,l=.al r sub
  .obtain⟨r,sub,rfl⟩:=hal;obtain⟨x,u,q,hu,hsub⟩:=hl0;simp only[Kf,q]at J;have hother:∀l'∈ls,l'.CA≠some r:=by
    intro l' e hr;rcases htk1 l' e with O|O
    .simp[AE5]at O
    .exact O hr.symm
   split at J
   .rename_i S1 ls1 heq;simp only[AE,A5]at J;obtain⟨rfl,rfl⟩:=J;obtain⟨htaken,htr,nf,hcells,Z⟩:=ih (S:=S.out r) (S':=S1) (ls':=ls1) (vs:=vs) (h.out q) hn' E (by
     intro c l' e;obtain⟨v',I,Q⟩:=hok (c+1) l' (by simpa using e);exact⟨v',by simpa using I,Q.out q (hother l' (Ar e))⟩) htk2 heq
    have hown:Own w x u (g.fp r):=by
     obtain⟨u',hu',Q⟩:=h.C8 r _ q;rw[hu]at hu';cases hu';exact Q
    obtain⟨S0,hS0,hO⟩:=Vz hown hsub;refine⟨⟨htaken.inv,fun X y H=>ym q (htaken.same X y H),fun id hid=>mS (htaken.bx id hid),htaken.pin.trans AFm⟩,?_,fun c=>match c with|0=>S0|c+1=>nf c,⟨?_,?_,?_⟩,?_⟩
    .intro fp l' v' Q j;exact htr fp l' v' (Q.out q (j r sub (by simp))) fun r2 sub2 hm=>j r2 sub2 (A3 _ hm)
    .simpa using hcells.1
    .intro c l' e;cases c with|zero=>simp only[AP,AE]at e;subst e;exact⟨v,rfl,hO⟩|succ c=>exact hcells.2.1 c l' (by simpa using e)
    .have hself:(∀b,S0 b->¬F.K b)/\(∀X,CZ S1 X->∀b,S0 b->¬g.fp X b)/\(∀id,(get S1.bx id).isSome->¬S0 (g.β id)):=by
      refine⟨fun b G=>h.Hr r ⟨x,q⟩ b (hS0 b G),fun X j b G=>?_,fun id hid G=>?_⟩
      .have:=J1 q (htaken.al X j);exact h.dis r X ⟨x,q⟩ this.2 (Ne.symm this.1) b (hS0 b G)
      .exact h.Ft r id ⟨x,q⟩ (mS (htaken.bx id hid)) (hS0 _ G)
     have hcross:∀c Y,ls1[c]?=some (.ow Y)->∀b,S0 b->¬nf c b:=by
      intro c Y B b G hb';obtain⟨X,j,hsubs⟩:=Z c Y B;have:=J1 q j;exact h.dis r X ⟨x,q⟩ this.2 (Ne.symm this.1) b (hS0 b G) (hsubs b hb')
     intro c y H;cases c with
     |zero=>
      refine⟨hself.1,hself.2.1,hself.2.2,?_⟩;intro L Y B hne b G;cases L with
      |zero=>exact(hne rfl).elim|succ L=>exact hcross L Y (by simpa using B) b G
     |succ c=>
      obtain⟨O,h2,h3,h4⟩:=hcells.2.2 c y (by simpa using H);refine⟨O,h2,h3,?_⟩;intro L Y B hne b G;cases L with
      |zero=>exact fun hb'=>hcross c y (by simpa using H) b hb' G|succ L=>exact h4 L Y (by simpa using B) (by omega) b G
    .intro c y H;cases c with
     |zero=>exact⟨r,⟨x,q⟩,hS0⟩|succ c=>
      obtain⟨X,j,hsubs⟩:=Z c y (by simpa using H);exact⟨X,(J1 q j).2,hsubs⟩
   .cases J
  .have htg:Kf S (l::ls)=match Kf S ls with|some (S',ls')=>some (S',l::ls')|none=>none:=by
    cases l<;>first|rfl|exact(hal ⟨_,_,rfl⟩).elim
   rw[htg]at J;split at J
   .rename_i S1 ls1 heq;simp only[AE,A5]at J;obtain⟨rfl,rfl⟩:=J;obtain⟨htaken,htr,nf,hcells,Z⟩:=ih (S:=S) (S':=S1) (ls':=ls1) (vs:=vs) h hn' E (by
     intro c l' e;obtain⟨v',I,Q⟩:=hok (c+1) l' (by simpa using e);exact⟨v',by simpa using I,Q⟩) htk2 heq
    have hno:∀x,l≠.ow x:=by rintro x rfl;exact hn x (by simp)
    refine⟨htaken,?_,fun c=>match c with|0=>fun _=>False|c+1=>nf c,⟨by simpa using hcells.1,?_,?_⟩,?_⟩
    .intro fp l' v' Q j;exact htr fp l' v' Q fun r2 sub2 hm=>j r2 sub2 (A3 _ hm)
    .intro c l' e;cases c with
     |zero=>
      simp only[AP,AE]at e;subst e;refine⟨v,rfl,htr _ _ _ hl0 ?_⟩;intro r sub hm hr;rcases htk1 _ hm with O|O
      .simp[AE5]at O
      .exact O hr
     |succ c=>exact hcells.2.1 c l' (by simpa using e)
    .intro c y H;cases c with
     |zero=>simp only[AP,AE]at H;exact(hno y H).elim|succ c=>
      obtain⟨O,h2,h3,h4⟩:=hcells.2.2 c y (by simpa using H);refine⟨O,h2,h3,?_⟩;intro L Y B hne b G;cases L with
      |zero=>simp only[AP,AE]at B;exact(hno Y B).elim|succ L=>exact h4 L Y (by simpa using B) (by omega) b G
    .intro c y H;cases c with|zero=>simp only[AP,AE]at H;exact(hno y H).elim|succ c=>exact Z c y (by simpa using H)
   .cases J
end
section
variable{F:Fix}{S S':St}{g g':Gh}{a a':Act}{w w':World}
def Gh.F6(g:Gh)(d blk:Nat)(vs:List Value)(nf:Nat->Blk):Gh:=
 { g with β:=fun i=>if i=d then blk else g.β i,bv:=fun i=>if i=d then vs else g.bv i,fp:=fun r=>match r with|.cell b c=>if b=d then nf c else g.fp (.cell b c)|.tmp s c=>g.fp (.tmp s c)}
theorem O6{d:Nat}{ls:List AU}(r:CV):({ S with bx:=put S.bx d ls}:St).at r=match r with|.cell b c=>if b=d then ls[c]? else S.at (.cell b c)|.tmp s c=>S.at (.tmp s c):=by
 grind[St.at,Fy]
theorem Inv.AUB(h:Inv F S g a w){d blk:Nat}{E:TypeId}{vs:List Value}{ls:List AU}{nf:Nat->Blk}
 (hs:Still w w') (hw:∀b,b≠blk->b<w.heap.size->w'.heap[b]?=w.heap[b]?) (hblk:w'.heap[blk]?=some (.cells vs.toArray E (0,0)))
 (hK:¬F.K blk) (hfpb:∀r,CZ S r->¬g.fp r blk) (hβ:∀id,id≠d->(get S.bx id).isSome->g.β id≠blk)
 (hnames:g.β d=blk\/(∀r l,S.at r=some l->(∀c,r≠.cell d c)->d∉names l)/\∀l∈ls,d∉names l)
 (hroots:∀l,(l∈ls\/∃r,S.at r=some l/\∀c,r≠.cell d c)->∀c x,l.CA=some (.cell d c)->S.at (.cell d c)=some (.ow x) ->
  ls[c]?=some (.ow x)/\vs[c]?=(g.bv d)[c]?/\∀b,g.fp (.cell d c) b->nf c b)
 (hlen:vs.length=ls.length) (hl:∀(c:Nat) (l:AU),ls[c]?=some l->∃v,vs[c]?=some v/\B1 F S g w (nf c) l v)
 (I:∀(c:Nat) x,ls[c]?=some (.ow x)->(∀b,nf c b->¬F.K b)/\(∀r,CZ S r->(∀c',r≠.cell d c')->∀b,nf c b->¬g.fp r b) /\
  (∀id,(get S.bx id).isSome->id≠d->¬nf c (g.β id))/\¬nf c blk/\∀(c':Nat) x',ls[c']?=some (.ow x')->c≠c'->∀b,nf c b->¬nf c' b)
 (hpin:d∈S.pin->(get S.bx d).isSome/\g.β d=blk):Inv F { S with bx:=Lv.put S.bx d ls} (g.F6 d blk vs nf) a w':=by
 have tmpd:∀r:CV,(∃c,r=CV.cell d c)\/∀c,r≠CV.cell d c:=by
  intro r;by_cases y:∃c,r=CV.cell d c
  .exact .inl y
  .exact .inr fun c hc=>y ⟨c,hc⟩
 have hrv:∀r,(∀c,r≠.cell d c)->(g.F6 d blk vs nf).rv r=g.rv r:=by
  intro r q;cases r with
  |tmp s c=>rfl|cell b c=>
   have:b≠d:=by rintro rfl;exact q c rfl
   simp[Gh.rv,Gh.F6,this]
 have X:∀r,(∀c,r≠.cell d c)->(g.F6 d blk vs nf).fp r=g.fp r:=by
  intro r q;cases r with
  |tmp s c=>rfl|cell b c=>
   have:b≠d:=by rintro rfl;exact q c rfl
   simp[Gh.F6,this]
 have hat:∀r,(∀c,r≠.cell d c)->({ S with bx:=Lv.put S.bx d ls}:St).at r=S.at r:=by
  intro r q;rw[O6];cases r with
  |tmp s c=>rfl|cell b c=>
   have:b≠d:=by rintro rfl;exact q c rfl
   simp[this]
 have fpd:∀c,(g.F6 d blk vs nf).fp (.cell d c)=nf c:=fun c=>by simp[Gh.F6]
 have hKw:∀b,F.K b->w'.heap[b]?=w.heap[b]?:=fun b e=>hw b (by rintro rfl;exact hK e) (BY (h.rlt b e) h.size)
 have hfw:∀r,CZ S r->∀b,g.fp r b->w'.heap[b]?=w.heap[b]?:=by
  rintro r ⟨x,y⟩ b e;obtain⟨v,_,H⟩:=h.C8 r _ y;exact hw b (by rintro rfl;exact hfpb r ⟨x,y⟩ e) (Own.lt H b e)
 have tr:∀{fp:Blk} {l:AU} {v:Value},(l∈ls\/∃r,S.at r=some l/\∀c,r≠.cell d c)->(∀x,l=.ow x->∀b,fp b->w'.heap[b]?=w.heap[b]?) ->
  B1 F S g w fp l v->B1 F { S with bx:=Lv.put S.bx d ls} (g.F6 d blk vs nf) w' fp l v:=by
  intro fp l v hmem hfpw H;by_cases how:∃x,l=.ow x
  .obtain⟨x,rfl⟩:=how;exact Own.frame H (hfpw x rfl)
  .have hn:∀x,l≠.ow x:=fun x y=>how ⟨x,y⟩
   refine B1.any hn ((B1.any (fp':=fun _=>False) hn H).tr ?_ ?_ (fun _ h=>h.elim) hKw)
   .intro r q;obtain⟨x,y⟩:=H.alive q;rcases tmpd r with ⟨c,rfl⟩|Z
    .obtain⟨G,O,h3⟩:=hroots l hmem c x q y;refine⟨?_,?_,?_,hfw _ ⟨x,y⟩⟩
     .rw[O6];simpa using G.trans y.symm
     .simpa[Gh.rv,Gh.F6] using O
     .intro b e;rw[fpd];exact h3 b e
    .exact⟨hat r Z,hrv r Z,fun b e=>(X r Z).symm▸e,hfw r ⟨x,y⟩⟩
   .intro id j;by_cases B:id=d
    .subst B;rcases hnames with e|⟨G,O⟩
     .simp[Gh.F6,e]
     .rcases hmem with hm|⟨r,q,Z⟩
      .exact(O l hm j).elim
      .exact(G r l q Z j).elim
    .simp[Gh.F6,B]
 have J:∀c,CZ { S with bx:=Lv.put S.bx d ls} (.cell d c)->∃x,ls[c]?=some (.ow x):=by
  rintro c ⟨x,y⟩;rw[O6]at y;exact⟨x,by simpa using y⟩
 have hal:∀r,(∀c,r≠.cell d c)->CZ { S with bx:=Lv.put S.bx d ls} r->CZ S r:=by
  rintro r q ⟨x,y⟩;exact⟨x,(hat r q)▸y⟩
 have hsome:∀id,id≠d->(get (Lv.put S.bx d ls) id).isSome->(get S.bx id).isSome:=by
  intro id j hs;rw[Fy,if_neg j]at hs;exact hs
 have hβd:(g.F6 d blk vs nf).β d=blk:=by simp[Gh.F6]
 have hβo:∀id,id≠d->(g.F6 d blk vs nf).β id=g.β id:=fun id j=>by simp[Gh.F6,j]
 have hnlt:∀(c:Nat) x,ls[c]?=some (.ow x)->∀b,nf c b->w'.heap[b]?=w.heap[b]?:=by
  intro c x y b e;obtain⟨v,_,H⟩:=hl c _ y;exact hw b (by rintro rfl;exact(I c x y).2.2.2.1 e) (Own.lt H b e)
 refine { C8:=?_,tms:=h.tms,bxs:=?_,dis:=?_,Ft:=?_,Hr:=?_,HA:=?_,bxR:=?_,Fo:=fun b e=>(hKw b e).trans (h.Fo b e),rlt:=h.rlt,still:=h.still.trans hs,defs:=h.defs,tsz:=h.tsz,pin:=?_}
 .intro r l L;rcases tmpd r with ⟨c,rfl⟩|q
  .rw[O6]at L;simp only[if_true]at L;obtain⟨v,hv,H⟩:=hl c l L;refine⟨v,by simpa[Gh.rv,Gh.F6] using hv,?_⟩;rw[fpd];exact tr (.inl (Ar L)) (by rintro x rfl;exact hnlt c x L) H
  .rw[hat r q]at L;obtain⟨v,hv,H⟩:=h.C8 r l L;refine⟨v,(hrv r q).trans hv,?_⟩;rw[X r q];exact tr (.inr ⟨r,L,q⟩) (by rintro x rfl;exact hfw r ⟨x,L⟩) H
 .intro id ls' hls;simp only[Fy]at hls;by_cases j:id=d
  .subst j;simp only[if_true,AE]at hls;subst hls;exact⟨⟨E,by simpa[Gh.F6] using hblk⟩,by simpa[Gh.F6] using hlen⟩
  .simp only[if_neg j]at hls;obtain⟨⟨E',hE⟩,O⟩:=h.bxs id ls' hls;refine⟨⟨E',?_⟩,by simpa[Gh.F6,j] using O⟩;rw[hβo id j,hw _ (hβ id j (by simp[hls])) (BB.1 hE).1,hE];simp[Gh.F6,j]
 .intro r r' q hr' Z b e Q;rcases tmpd r with ⟨c,rfl⟩|G
  .obtain⟨x,y⟩:=J c q;rw[fpd]at e;rcases tmpd r' with ⟨c',rfl⟩|O
   .obtain⟨x',hx'⟩:=J c' hr';rw[fpd]at Q;exact(I c x y).2.2.2.2 c' x' hx' (by rintro rfl;exact Z rfl) b e Q
   .rw[X r' O]at Q;exact(I c x y).2.1 r' (hal r' O hr') O b e Q
  .rw[X r G]at e;rcases tmpd r' with ⟨c',rfl⟩|O
   .obtain⟨x',hx'⟩:=J c' hr';rw[fpd]at Q;exact(I c' x' hx').2.1 r (hal r G q) G b Q e
   .rw[X r' O]at Q;exact h.dis r r' (hal r G q) (hal r' O hr') Z b e Q
 .intro r id q j e;by_cases B:id=d
  .subst B;rw[hβd]at e;rcases tmpd r with ⟨c,rfl⟩|G
   .obtain⟨x,y⟩:=J c q;rw[fpd]at e;exact(I c x y).2.2.2.1 e
   .rw[X r G]at e;exact hfpb r (hal r G q) e
  .rw[hβo id B]at e;rcases tmpd r with ⟨c,rfl⟩|G
   .obtain⟨x,y⟩:=J c q;rw[fpd]at e;exact(I c x y).2.2.1 id (hsome id B j) B e
   .rw[X r G]at e;exact h.Ft r id (hal r G q) (hsome id B j) e
 .intro r q b e;rcases tmpd r with ⟨c,rfl⟩|G
  .obtain⟨x,y⟩:=J c q;rw[fpd]at e;exact(I c x y).1 b e
  .rw[X r G]at e;exact h.Hr r (hal r G q) b e
 .intro id id' G O he;by_cases hi:id=d
  .by_cases Y:id'=d
   .exact hi.trans Y.symm
   .subst hi;rw[hβd,hβo id' Y]at he;exact(hβ id' Y (hsome id' Y O) he.symm).elim
  .by_cases Y:id'=d
   .subst Y;rw[hβd,hβo id hi]at he;exact(hβ id hi (hsome id hi G) he).elim
   .rw[hβo id hi,hβo id' Y]at he;exact h.HA id id' (hsome id hi G) (hsome id' Y O) he
 .intro id G;by_cases hi:id=d
  .subst hi;rw[hβd];exact hK
  .rw[hβo id hi];exact h.bxR id (hsome id hi G)
 .intro p hp;obtain⟨G,O⟩:=h.pin p hp;refine⟨G,fun hsm=>?_⟩;by_cases hi:p=d
  .subst hi;rw[hβd];exact(hpin hp).2.symm.trans (O (hpin hp).1)
  .rw[hβo p hi];exact O (hsome p hi hsm)
end
theorem Q4{α:Type}(ls:List α)(o:Nat)(cs:List α):(Dt ls o cs).length=ls.length:=by
 induction cs generalizing ls o with
 |nil=>rfl|cons c cs e=>simp[Dt,e]
theorem Gy{α:Type}(ls:List α)(o:Nat)(cs:List α)(h:o+cs.length<=ls.length)(c:Nat) :
 (Dt ls o cs)[c]?=if o<=c/\c<o+cs.length then cs[c-o]? else ls[c]?:=by
 induction cs generalizing ls o with
 |nil=>simp only[Dt,AN,DD];rw[if_neg (by omega)]|cons x cs e=>
  grind[Dt,List.length_cons]
theorem Pe{α:Type}(ls:List α)(o:Nat)(cs:List α)(h:o+cs.length<=ls.length):Dt ls o cs=ls.take o++cs++ls.drop (o+cs.length):=by
 apply List.ext_getElem?;intro c;rw[Gy ls o cs h,CR,JF,JF]
 grind[List.length_take,min]
section
variable{F:Fix}{S S':St}{g g':Gh}{a a':Act}{w w':World}
theorem mN{d:Nat}{l:AU}(h:Fp d l=false):d∉names l:=by
 cases l with
 |bp id off=>simp[Fp,AU.NW]at h;simp[names,Ne.symm h]|fn f caps=>
  grind[Fp,List.any_eq_false,names,AU.NW]
 |_=>simp[names]
theorem Q0{d c:Nat}{l:AU}(h:Fp d l=false):l.CA≠some (.cell d c):=by
 intro e;have:=AMX e;cases l<;>simp_all[Fp,AU.CA]
theorem Mz(q:AU->Bool)(c:q (.t .top)=false){r:CV}{l:AU}(h:(S.kill q).at r=some l):q l=false:=by
 grind[IY,Option.map_eq_some_iff]
theorem Vn(q:AU->Bool)(c:q (.t .top)=false){ls:List AU}{l:AU}(h:l∈EU q ls):q l=false:=by
 grind[List.getElem?_of_mem,Gg,Option.map_eq_some_iff]
theorem Cells.grow{cs:List AU}{vs:List Value}{nf:Nat->Blk}(h:Inv F S g a w)(y:Cells F S g w cs vs nf)
 (G:∀b,b<w.heap.size->w'.heap[b]?=w.heap[b]?):Cells F S g w' cs vs nf:=by
 refine⟨y.1,?_,y.2.2⟩;intro c l J;obtain⟨v,L,e⟩:=y.2.1 c l J;refine⟨v,L,?_⟩;have B:∀r,CZ S r->∀b,g.fp r b->w'.heap[b]?=w.heap[b]?:=by
  rintro r ⟨x,H⟩ b j;obtain⟨v,_,e⟩:=h.C8 r _ H;exact G b (Own.lt e b j)
 by_cases q:∃x,l=.ow x
 .obtain⟨x,rfl⟩:=q;exact Own.frame e fun b j=>G b (Own.lt e b j)
 .have I:∀x,l≠.ow x:=fun x H=>q ⟨x,H⟩
  exact B1.any I ((B1.any (fp':=fun _=>False) I e).tr (S':=S) (g':=g) (w':=w') (fun O E=>⟨rfl,rfl,fun _ h=>h,B O (e.alive E)⟩) (fun _ _=>rfl) (fun _ h=>h.elim)
   fun b j=>G b (BY (h.rlt b j) h.size))
def World.push(w:World)(o:Obj):World:={ w with heap:=w.heap.push o}
theorem FI{o:Obj}{b:Nat}(c:b<w.heap.size):(World.push w o).heap[b]?=w.heap[b]?:=by
 show (w.heap.push o)[b]?=_;rw[Gk,if_neg (Ou c)]
theorem Nv{o:Obj}:(World.push w o).heap[w.heap.size]?=some o:=by
 show (w.heap.push o)[w.heap.size]?=_;rw[Gk,if_pos rfl]
theorem Still.push{o:Obj}:Still w (World.push w o):=Still.alloc
def Oi(d:Nat)(l:AU):Bool:=E4 d l||Fp d l
theorem Inv.AaT(h:Inv F S g a w){d:Nat}(hd:d<F.N)(hp:d∉S.pin){cs:List AU}{vs:List Value}{nf:Nat->Blk}(hc:Cells F S g w cs vs nf)(E:TypeId) :
 ∃g',Inv F { S.kill (Oi d) with tm:=Lv.put (S.kill (Oi d)).tm d ⟨.one,[.bp d 0]⟩,bx:=Lv.put (S.kill (Oi d)).bx d (EU (Oi d) cs)} g'
  (a.put (some d) (.pointer (some ⟨w.heap.size,0,none⟩))) (World.push w (.cells vs.toArray E (0,0))):=by
 have hq:∀x,Oi d (.ow x)=false:=fun x=>rfl
 have B:Oi d (.t .top)=false:=rfl;have j:∀{l},Oi d l=false->Fp d l=false/\E4 d l=false:=by
  intro l q;simp only[Oi,Bool.or_eq_false_iff]at q;exact⟨q.2,q.1⟩
 have Q:=h.kill (Oi d) hq;have y:=hc.kill (Oi d) hq;have Y:∀r,CZ (S.kill (Oi d)) r->¬g.fp r w.heap.size:=by
  rintro r ⟨x,G⟩ J;obtain⟨v,_,I⟩:=Q.C8 r _ G;exact JS _ (Own.lt I _ J)
 have L:∀(c:Nat) x,(EU (Oi d) cs)[c]?=some (.ow x)->¬nf c w.heap.size:=by
  intro c x G J;obtain⟨v,_,I⟩:=y.2.1 c _ G;exact JS _ (Own.lt I _ J)
 have h2:=Q.AUB (d:=d) (blk:=w.heap.size) (E:=E) (vs:=vs) (ls:=EU (Oi d) cs) (nf:=nf) (w':=World.push w (.cells vs.toArray E (0,0)))
  Still.push (fun b _ J=>FI J) Nv (fun hK=>JS _ (BY (h.rlt _ hK) h.size)) Y
  (by
   intro id _ H he;obtain⟨ls,X⟩:=Bs.1 H;obtain⟨⟨E',hE⟩,_⟩:=Q.bxs id ls X;rw[he]at hE;simp at hE)
  (.inr ⟨fun r l q _=>mN (j (Mz _ B q)).1,fun l q=>mN (j (Vn _ B q)).1⟩)
  (by
   rintro l (q|⟨r,q,_⟩) c x O _
   .exact(Q0 (j (Vn _ B q)).1 O).elim
   .exact(Q0 (j (Mz _ B q)).1 O).elim)
  y.1 y.2.1 (fun c x G=>⟨(y.2.2 c x G).1,fun r O _=>(y.2.2 c x G).2.1 r O,fun id H _=>(y.2.2 c x G).2.2.1 id H,L c x G,(y.2.2 c x G).2.2.2⟩)
  (fun Z=>(hp Z).elim)
 refine⟨_,h2.put (d:=d) (e:=⟨.one,[.bp d 0]⟩) (vs:=[.pointer (some ⟨w.heap.size,0,none⟩)]) (nf:=fun _ _=>False) hd hp ?_ ?_ ?_⟩
 .intro r l q _;rw[O6]at q;cases r with
  |tmp s c=>exact(j (Mz _ B q)).2|cell b c=>
   simp only at q;split at q
   .exact(j (Vn _ B (Ar q))).2
   .exact(j (Mz _ B q)).2
 .simp[E4,AU.CA]
 .refine Cells.free rfl ?_ (by simp);intro c l q;cases c with|zero=>simp only[AP,AE]at q;subst q;exact⟨_,rfl,by show _=_;simp[Gh.F6]⟩|succ c=>simp at q
theorem AMf{blk:Nat}{cur new:Array Value}{E:TypeId}(h:w.heap[blk]?=some (.cells cur E (0,0))):(w.setRow blk new).heap[blk]?=some (.cells new E (0,0)):=by
 simp[World.setRow,Fz,h]
theorem setRow_other{blk b:Nat}{new:Array Value}(h:b≠blk):(w.setRow blk new).heap[b]?=w.heap[b]?:=by
 simp[World.setRow,Fz,Ne.symm h]
theorem Inv.AcR(h:Inv F S g a w){cs:List AU}{vs:List Value}{nf:Nat->Blk}(hc:Cells F S g w cs vs nf){id o:Nat}{ls:List AU}
 (hls:get (S.kill (Im id o cs.length)).bx id=some ls) (hle:o+cs.length<=ls.length) :
 ∃g',Inv F { S.kill (Im id o cs.length) with bx:=Lv.put (S.kill (Im id o cs.length)).bx id (Dt ls o (EU (Im id o cs.length) cs))} g' a
  (w.setRow (g.β id) ((g.bv id).take o++vs++(g.bv id).drop (o+vs.length)).toArray):=by
 generalize hqd:Im id o cs.length=q at *;have hq:∀x,q (.ow x)=false:=fun x=>by subst hqd;rfl
 have hqt:q (.t .top)=false:=by subst hqd;rfl
 have I:=h.kill q hq;have hc1:=hc.kill q hq;have hroot:∀{l:AU} {c:Nat},q l=false->l.CA=some (.cell id c)->¬(o<=c/\c<o+cs.length):=by
  intro l c G e L;subst hqd;simp only[Im,e,decide_true,Bool.true_and,Iq,decide_eq_false_iff_not]at G;omega
 obtain⟨⟨E,hE⟩,hlen⟩:=I.bxs id ls hls;have hsome:(get (S.kill q).bx id).isSome:=by simp[hls]
 have hkl:(EU q cs).length=cs.length:=FL _ _;have hvl:vs.length=cs.length:=hc.1;have Z:o+vs.length<=(g.bv id).length:=by omega
 have B:∀c,(Dt ls o (EU q cs))[c]?=if o<=c/\c<o+cs.length then (EU q cs)[c-o]? else ls[c]?:=by
  intro c;rw[Gy _ _ _ (by omega),hkl]
 have hgetv:∀c,((g.bv id).take o++vs++(g.bv id).drop (o+vs.length))[c]?=if o<=c/\c<o+cs.length then vs[c-o]? else (g.bv id)[c]?:=by
  intro c;rw[<-Pe _ _ _ Z,Gy _ _ _ Z,hvl]
 have y:∀c,(S.kill q).at (.cell id c)=ls[c]?:=by intro c;simp[St.at,hls]
 have hlen2:((g.bv id).take o++vs++(g.bv id).drop (o+vs.length)).length=(Dt ls o (EU q cs)).length:=by
  rw[<-Pe _ _ _ Z,Q4,Q4,hlen]
 let j:Nat->Blk:=fun c=>if o<=c/\c<o+cs.length then nf (c-o) else g.fp (.cell id c)
 have hcase:∀(c:Nat) x,(Dt ls o (EU q cs))[c]?=some (.ow x) ->
  (o<=c/\c<o+cs.length/\(EU q cs)[c-o]?=some (.ow x)/\j c=nf (c-o))\/(¬(o<=c/\c<o+cs.length)/\(S.kill q).at (.cell id c)=some (.ow x)/\j c=g.fp (.cell id c)):=by
  intro c x Q;rw[B]at Q;by_cases e:o<=c/\c<o+cs.length
  .rw[if_pos e]at Q;exact .inl ⟨e.1,e.2,Q,by simp[j,e]⟩
  .rw[if_neg e]at Q;exact .inr ⟨e,(y c).trans Q,by simp only[j,if_neg e]⟩
 refine⟨_,I.AUB (d:=id) (blk:=g.β id) (E:=E) (nf:=j) Still.setRow (fun b L _=>setRow_other L) (AMf hE) (I.bxR id hsome)
  (fun r e=>I.Ft r id e hsome) (fun X H hs he=>H (I.HA X id hs hsome he)) (.inl rfl) ?_ hlen2 ?_ ?_ (fun _=>⟨hsome,rfl⟩)⟩
 .intro l G c x e Q;have hql:q l=false:=by
   rcases G with G|⟨r,G,_⟩
   .obtain⟨c',O⟩:=Bo G;rw[B]at O;split at O
    .exact Vn _ hqt (Ar O)
    .exact Mz _ hqt ((y c').trans O)
   .exact Mz _ hqt G
  have J:=hroot hql e;refine⟨?_,?_,?_⟩
  .rw[B,if_neg J,<-y];exact Q
  .rw[hgetv,if_neg J]
  .intro b L;simp only[j,if_neg J];exact L
 .intro c l G;rw[B]at G;by_cases e:o<=c/\c<o+cs.length
  .rw[if_pos e]at G;obtain⟨v,hv,hok⟩:=hc1.2.1 _ _ G;exact⟨v,by rw[hgetv,if_pos e];exact hv,by simp only[j,if_pos e];exact hok⟩
  .rw[if_neg e]at G;obtain⟨v,hv,hok⟩:=I.C8 (.cell id c) l ((y c).trans G);exact⟨v,by rw[hgetv,if_neg e];exact hv,by simp only[j,if_neg e];exact hok⟩
 .intro c x Q;rcases hcase c x Q with ⟨h3,Y,h5,h6⟩|⟨h3,Y,h6⟩
  .obtain⟨p1,p2,p3,p4⟩:=hc1.2.2 _ _ h5;rw[h6];refine⟨p1,fun r e _=>p2 r e,fun X hs _=>p3 X hs,p3 id hsome,?_⟩;intro c' x' hx' H b L;rcases hcase c' x' hx' with ⟨k3,k4,k5,k6⟩|⟨k3,k4,k6⟩
   .rw[k6];exact p4 _ _ k5 (by omega) b L
   .rw[k6];exact p2 _ ⟨_,k4⟩ b L
  .rw[h6];refine⟨I.Hr _ ⟨_,Y⟩,fun r e H=>I.dis _ _ ⟨_,Y⟩ e (Ne.symm (H c)),fun X hs _=>I.Ft _ _ ⟨_,Y⟩ hs,I.Ft _ _ ⟨_,Y⟩ hsome,?_⟩;intro c' x' hx' H b L;rcases hcase c' x' hx' with ⟨k3,k4,k5,k6⟩|⟨k3,k4,k6⟩
   .rw[k6];exact fun hb'=>(hc1.2.2 _ _ k5).2.1 _ ⟨_,Y⟩ b hb' L
   .rw[k6];exact I.dis _ _ ⟨_,Y⟩ ⟨_,k4⟩ (by simpa using H) b L
theorem Inv.AFz(h:Inv F S g a w){r:CV}{e:Nat}{xs ys:List (List T)}{u:Value}{fp':Blk}(hx:S.at r=some (.ow (.sl e xs)))(hu:g.rv r=some u)(hl:ys.length=xs.length)
 (hs:Still w w') (hw:∀b,b<w.heap.size->¬g.fp r b->w'.heap[b]?=w.heap[b]?) (hown:Own w' (.sl e ys) u fp') (hK:∀b,fp' b->¬F.K b)
 (hdis:∀c,CZ S c->c≠r->∀b,fp' b->¬g.fp c b) (hB:∀id,(get S.bx id).isSome->¬fp' (g.β id)) :
 Inv F ((S.B3 r (.ow (.sl e ys))).kill (Fa r)) { g with fp:=fun c=>if c=r then fp' else g.fp c} a w':=by
 have hat:∀c,((S.B3 r (.ow (.sl e ys))).kill (Fa r)).at c=(if c=r then some (.ow (.sl e ys)) else S.at c).map fun l=>if Fa r l then .t .top else l:=by
  intro c;rw[IY,Gp hx]
 have X:∀c,CZ ((S.B3 r (.ow (.sl e ys))).kill (Fa r)) c->CZ S c:=by
  rintro c ⟨x,hx'⟩;rw[hat,AQ]at hx';obtain⟨l,I,J⟩:=hx';split at J
  .cases J
  .subst J;split at I
   .subst_vars;exact⟨_,hx⟩
   .exact⟨x,I⟩
 have hsome:∀id,(get ((S.B3 r (.ow (.sl e ys))).kill (Fa r)).bx id).isSome->(get S.bx id).isSome:=by
  intro id hid;simp only[St.kill,DP,KT]at hid
  rwa[Dz]at hid
 have hKw:∀b,F.K b->w'.heap[b]?=w.heap[b]?:=fun b q=>hw b (BY (h.rlt b q) h.size) fun hf=>h.Hr r ⟨_,hx⟩ b hf q
 have hfw:∀c,CZ S c->c≠r->∀b,g.fp c b->w'.heap[b]?=w.heap[b]?:=by
  rintro c ⟨x,hx'⟩ H b q;obtain⟨v,_,O⟩:=h.C8 c _ hx';exact hw b (Own.lt O b q) (h.dis c r ⟨x,hx'⟩ ⟨_,hx⟩ H b q)
 let g':Gh:={ g with fp:=fun c=>if c=r then fp' else g.fp c}
 have L:g'.fp r=fp':=by simp[g']
 have G:∀c,c≠r->g'.fp c=g.fp c:=fun c H=>by simp[g',H]
 have tr:∀{fp:Blk} {l:AU} {v:Value},Fa r l=false->(∀x,l≠.ow x)->B1 F S g w fp l v->B1 F ((S.B3 r (.ow (.sl e ys))).kill (Fa r)) g' w' fp l v:=by
  intro fp l v hin hno O;by_cases hr:l.CA=some r
  .match l,O with
   |.al y sub,⟨x,u1,B,Q,h3⟩=>
    cases hr;rw[hx]at B;cases B;refine⟨.sl e ys,u1,by rw[hat,if_pos rfl];rfl,Q,?_⟩;cases sub with
    |none=>exact h3|some p=>
     obtain⟨lo,n⟩:=p;obtain⟨blk,off,len,cap,off',cap',q1,q2,q3,q4⟩|⟨q1,q2,rfl,q4⟩:=h3
     .exact .inl ⟨blk,off,len,cap,off',cap',q1,q2,by omega,q4⟩
     .exact .inr ⟨q1,q2,List.eq_nil_of_length_eq_zero (by simpa using hl),q4⟩
   |.ep y i j,⟨Z,xs1,blk,off,len,cap,B,Q,h3,h4⟩=>
    cases hr;rw[hx]at B;cases B;exact⟨e,ys,blk,off,len,cap,by rw[hat,if_pos rfl];rfl,Q,by omega,h4⟩
   |.vw (.own y _) Z xs1,_=>cases hr;simp[Fa]at hin
   |.vp (.own y _) cs1,_=>cases hr;simp[Fa]at hin
  .refine B1.any hno ((B1.any (fp':=fun _=>False) hno O).tr ?_ (fun _ _=>rfl) (fun _ h=>h.elim) hKw);intro y hr1;obtain⟨x,hx1⟩:=O.alive hr1;have H:y≠r:=by rintro rfl;exact hr hr1
   refine⟨?_,rfl,fun b q=>by rw[G y H];exact q,hfw y ⟨x,hx1⟩ H⟩;rw[hat,if_neg H,hx1];rfl
 show Inv F _ g' a w';refine { C8:=?_,tms:=?_,bxs:=?_,dis:=?_,Ft:=?_,Hr:=?_,HA:=fun id id' B Q=>h.HA id id' (hsome id B) (hsome id' Q),bxR:=fun id B=>h.bxR id (hsome id B),Fo:=fun b q=>(hKw b q).trans (h.Fo b q),rlt:=h.rlt,still:=h.still.trans hs,defs:=h.defs,tsz:=h.tsz,pin:=?_}
 .intro c l hl;rw[hat,AQ]at hl;obtain⟨l0,I,J⟩:=hl;by_cases hr:c=r
  .subst hr;rw[if_pos rfl]at I;cases I;simp only[Fa,if_false,Bool.false_eq_true]at J;subst J;exact⟨u,hu,by rw[L];exact hown⟩
  .rw[if_neg hr]at I;obtain⟨v,hv,O⟩:=h.C8 c l0 I;refine⟨v,hv,?_⟩;split at J
   .subst J;exact B1.top
   .rename_i hin;subst J;by_cases how:∃x,l0=.ow x
    .obtain⟨x,rfl⟩:=how;rw[G c hr];exact Own.frame O (hfw c ⟨x,I⟩ hr)
    .have hno:∀x,l0≠.ow x:=fun x hx=>how ⟨x,hx⟩
     exact B1.any hno (tr (by simpa using hin) hno O)
 .intro s e' he;simp only[St.kill,FK,AQ]at he;obtain⟨Z,he1,rfl⟩:=he;obtain⟨e0,B,Q,h3⟩:=Q9 he1;obtain⟨p1,p2,p3⟩:=h.tms s e0 B;exact⟨p1,by rw[p2,Q],by rw[p3,FL,h3]⟩
 .intro id ls' hls;simp only[St.kill,DP,AQ]at hls;obtain⟨l1,I,rfl⟩:=hls;obtain⟨l0,B,Q⟩:=Ko I;obtain⟨⟨E,hE⟩,p2⟩:=h.bxs id l0 B;refine⟨⟨E,(hw _ (BB.1 hE).1 fun hf=>h.Ft r id ⟨_,hx⟩ (by simp[B]) hf).trans hE⟩,by rw[p2,FL,Q]⟩
 .intro y r2 B Q H b q Y;by_cases Z:y=r
  .subst Z;rw[L]at q;rw[G r2 (Ne.symm H)]at Y;exact hdis r2 (X r2 Q) (Ne.symm H) b q Y
  .rw[G y Z]at q;by_cases e2:r2=r
   .subst e2;rw[L]at Y;exact hdis y (X y B) Z b Y q
   .rw[G r2 e2]at Y;exact h.dis y r2 (X y B) (X r2 Q) H b q Y
 .intro y id B hid q;by_cases Z:y=r
  .subst Z;rw[L]at q;exact hB id (hsome id hid) q
  .rw[G y Z]at q;exact h.Ft y id (X y B) (hsome id hid) q
 .intro y B b q;by_cases Z:y=r
  .subst Z;rw[L]at q;exact hK b q
  .rw[G y Z]at q;exact h.Hr y (X y B) b q
 .intro p hp;have hpp:p∈S.pin:=by
   have:((S.B3 r (.ow (.sl e ys))).kill (Fa r)).pin=S.pin:=IQ
   rwa[this]at hp
  obtain⟨B,Q⟩:=h.pin p hpp;exact⟨B,fun hs=>Q (hsome p hs)⟩
theorem Inv.Ab5(h:Inv F S g a w){r:CV}{e:Nat}{xs ys:List (List T)}{u:Value}{fp':Blk}(H:S.at r=some (.ow (.sl e xs)))(E:g.rv r=some u)(y:ys.length=xs.length)
 (B:Still w w') (G:∀b,b<w.heap.size->¬g.fp r b->w'.heap[b]?=w.heap[b]?) (j:Own w' (.sl e ys) u fp') (hK:∀b,fp' b->¬F.K b)
 (c:∀q,CZ S q->q≠r->∀b,fp' b->¬g.fp q b) (hB:∀id,(get S.bx id).isSome->¬fp' (g.β id)) :
 ∃g',Inv F ((S.B3 r (.ow (.sl e ys))).kill (Fa r)) g' a w':=⟨_,h.AFz H E y B G j hK c hB⟩
end
section
variable{F:Fix}{S S':St}{g g':Gh}{a a':Act}{w w':World}
theorem AGq{rows:List (List T)}{i j:Nat}{x y:T}(h:at2 rows i j=some y)(c e:Nat):at2 (Ju rows i j x) c e=if c=i/\e=j then some x else at2 rows c e:=by
 grind[at2,List.getElem?_eq_some_iff,List.getD,Ju]
theorem Uh{rows:List (List T)}{i j:Nat}{x:T}:(Ju rows i j x).length=rows.length:=by simp[Ju]
theorem AC3{rows:List (List T)}{i j e:Nat}{x:T}(h:∀row∈rows,row.length=e)(hi:i<rows.length):∀row∈Ju rows i j x,row.length=e:=by
 intro row c;rcases List.mem_or_eq_of_mem_set c with c|rfl
 .exact h row c
 grind[List.length_set,List.getD]
theorem Own.hole{e:Nat}{rows:List (List T)}{blk off len cap:Nat}{fp:Blk}{i j:Nat}{y:T}{v:Value}(h:Own w (.sl e rows) (.slice (some ⟨blk,off,none⟩) len cap) fp)(O:at2 rows i j=some y)
 (hv:w.cell? ⟨blk,off+i*e+j,none⟩=some v) :
 ∃S0 fp':Blk,Own w y v S0/\Own w (.sl e (Ju rows i j .top)) (.slice (some ⟨blk,off,none⟩) len cap) fp'/\(∀b,S0 b->fp b)/\(∀b,fp' b->fp b)/\∀b,S0 b->¬fp' b:=by
 cases h with
 |sc h _ _=>exact h.elim|sl c f h1 h2 h3 h4 h5 h6 h7 h8 h9 Q=>
  have hc:c i j=v:=by
   rw[h4.cell,h6 i j y O]at hv;exact Option.some.inj hv
  subst hc;have L:=h7 i j y O;have hi:=ADZ O;have H:∀q B x,at2 (Ju rows i j .top) q B=some x->(q=i/\B=j/\x=.top)\/(¬(q=i/\B=j)/\at2 rows q B=some x):=by
   intro q B x I;rw[AGq O]at I;split at I
   .rename_i G;exact .inl ⟨G.1,G.2,(Option.some.inj I).symm⟩
   .rename_i G;exact .inr ⟨G,I⟩
  refine⟨f i j,fun b=>b=blk\/∃q B x,at2 (Ju rows i j .top) q B=some x/\(if q=i/\B=j then fun _=>False else f q B) b,L,
   .sl c (fun q B=>if q=i/\B=j then fun _=>False else f q B) (by rw[Uh];exact h1) h2 (AC3 h3 hi) h4 h5 ?_ ?_ ?_ ?_ (fun b=>Iff.rfl),?_,?_,?_⟩
  .intro q B x I;rcases H q B x I with ⟨rfl,rfl,rfl⟩|⟨G,E⟩
   .exact h6 _ _ _ O
   .exact h6 _ _ _ E
  .intro q B x I;rcases H q B x I with ⟨rfl,rfl,rfl⟩|⟨G,E⟩
   .exact .sc trivial L.one (by simp)
   .rw[if_neg G];exact h7 _ _ _ E
  .intro q B x I;rcases H q B x I with ⟨rfl,rfl,rfl⟩|⟨G,E⟩
   .simp
   .rw[if_neg G];exact h8 _ _ _ E
  .intro i1 j1 x1 i2 j2 x2 hx1 hx2 hne b J;rcases H i1 j1 x1 hx1 with ⟨rfl,rfl,rfl⟩|⟨G,Y⟩
   .simp at J
   .rw[if_neg G]at J;rcases H i2 j2 x2 hx2 with ⟨rfl,rfl,rfl⟩|⟨hh2,Z⟩
    .simp
    .rw[if_neg hh2];exact h9 _ _ _ _ _ _ Y Z hne b J
  .intro b J;exact(Q b).2 (.inr ⟨i,j,y,O,J⟩)
  .rintro b (rfl|⟨q,B,x,I,J⟩)
   .exact(Q _).2 (.inl rfl)
   .rcases H q B x I with ⟨rfl,rfl,rfl⟩|⟨G,E⟩
    .simp at J
    .rw[if_neg G]at J;exact(Q b).2 (.inr ⟨q,B,x,E,J⟩)
  .rintro b J (rfl|⟨q,B,x,I,X⟩)
   .exact h8 i j y O J
   .rcases H q B x I with ⟨rfl,rfl,rfl⟩|⟨G,E⟩
    .simp at X
    .rw[if_neg G]at X;exact h9 i j y q B x O E (by rintro rfl rfl;exact G ⟨rfl,rfl⟩) b J X
def AUc(x x':T):Prop:=x'=x\/∃e xs xs',x=.sl e xs/\x'=.sl e xs'/\xs'.length=xs.length
theorem AUc.trans{x y z:T}(h:AUc x y)(j:AUc y z):AUc x z:=by
 rcases h with rfl|⟨e,xs,ys,rfl,rfl,q⟩
 .exact j
 .rcases j with rfl|⟨H,E,G,B,rfl,c⟩
  .exact .inr ⟨e,xs,ys,rfl,rfl,q⟩
  .cases B;exact .inr ⟨e,xs,G,rfl,rfl,c.trans q⟩
structure JO(F:Fix)(S S':St)(g g':Gh)(a:Act)(w:World):Prop where
 inv:Inv F S' g' a w
 ALs:∀r x',S'.at r=some (.ow x')->∃x,S.at r=some (.ow x)/\AUc x x'
 bx:∀id,(get S'.bx id).isSome->(get S.bx id).isSome
 pin:S'.pin=S.pin
 tv:g'.tv=g.tv
 bv:g'.bv=g.bv
 β:g'.β=g.β
 fp:∀r b,g'.fp r b->g.fp r b
theorem WO.toG(h:WO F S S' g a w):JO F S S' g g a w:=⟨h.inv,fun r x c=>⟨x,h.same r x c,.inl rfl⟩,h.bx,h.pin,rfl,rfl,rfl,fun _ _ h=>h⟩
theorem JO.al(h:JO F S S' g g' a w):∀r,CZ S' r->CZ S r:=fun r ⟨x,c⟩=>let ⟨y,e,_⟩:=h.ALs r x c;⟨y,e⟩
theorem JO.rv(h:JO F S S' g g' a w)(r:CV):g'.rv r=g.rv r:=by cases r<;>simp[Gh.rv,h.tv,h.bv]
theorem JO.trans{S2:St}{q:Gh}(h:JO F S S' g g' a w)(c:JO F S' S2 g' q a w):JO F S S2 g q a w:=
 ⟨c.inv,fun r x G=>let ⟨y,H,E⟩:=c.ALs r x G;let ⟨z,I,j⟩:=h.ALs r y H;⟨z,I,j.trans E⟩,fun id e=>h.bx id (c.bx id e),c.pin.trans h.pin,c.tv.trans h.tv,c.bv.trans h.bv,c.β.trans h.β,fun r b B=>h.fp r b (c.fp r b B)⟩
theorem ADH(h:Inv F S g a w){r:CV}{x:T}(e:S.at r=some (.ow x)):WO F S (S.out r) g a w:=
 ⟨h.out e,fun _ _ j=>ym e j,fun _ c=>mS c,AFm⟩
theorem B1.off{fp:Blk}{l:AU}{v:Value}(h:B1 F S g w fp l v){r:CV}(E:l.CA≠some r)(hS:∀c,c≠r->CZ S c->S'.at c=S.at c)(B:∀c,c≠r->g'.fp c=g.fp c)(G:∀c,g'.rv c=g.rv c)(hβ:g'.β=g.β):B1 F S' g' w fp l v:=by
 refine h.tr ?_ (fun _ _=>by rw[hβ]) (fun _ _=>rfl) fun _ _=>rfl
 intro q j;have e:q≠r:=by rintro rfl;exact E j
 exact⟨hS q e (h.alive j),G q,fun b y=>by rw[B q e];exact y,fun _ _=>rfl⟩
theorem Qn{r:CV}{i j:Nat}(c:S.pull r i j=some S'):∃e rows,S.at r=some (.ow (.sl e rows))/\S'=(S.B3 r (.ow (.sl e (Ju rows i j .top)))).kill (Fa r):=by
 grind[St.pull,Option.some.inj]
theorem Re{r:CV}{e:Nat}{rows ys:List (List T)}(h:S.at r=some (.ow (.sl e rows)))(c:CV) :
 ((S.B3 r (.ow (.sl e ys))).kill (Fa r)).at c=(if c=r then some (.ow (.sl e ys)) else S.at c).map fun l=>if Fa r l then .t .top else l:=by
 rw[IY,Gp h]
theorem ACk{r:CV}{e:Nat}{rows ys:List (List T)}(B:S.at r=some (.ow (.sl e rows)))(E:ys.length=rows.length) :
 ∀y q,((S.B3 r (.ow (.sl e ys))).kill (Fa r)).at y=some (.ow q)->∃x,S.at y=some (.ow x)/\AUc x q:=by
 intro y q j;rw[Re B,AQ]at j;obtain⟨l,c,h⟩:=j;split at h
 .cases h
 .subst h;split at c
  .subst_vars
   cases c;exact⟨_,B,.inr ⟨e,rows,ys,rfl,rfl,E⟩⟩
  .exact⟨q,c,.inl rfl⟩
theorem AeQ{r:CV}{e:Nat}{rows ys:List (List T)}(q:S.at r=some (.ow (.sl e rows))) :
 ∀c,c≠r->CZ S c->((S.B3 r (.ow (.sl e ys))).kill (Fa r)).at c=S.at c:=by
 rintro c h ⟨x,j⟩;rw[Re q,if_neg h,j];rfl
theorem AeR{r:CV}{l:AU}{id:Nat}(h:(get ((S.B3 r l).kill (Fa r)).bx id).isSome):(get S.bx id).isSome:=by
 simp only[St.kill,DP,KT]at h
 rwa[Dz]at h
theorem AMF{r:CV}{l:AU}:((S.B3 r l).kill (Fa r)).pin=S.pin:=IQ
theorem Inv.pull(h:Inv F S g a w){r:CV}{i j e:Nat}{xs:List (List T)}{v:Value}(Y:S.pull r i j=some S')(X:AtC S g w r (some (i,j)) e xs v) :
 ∃(S0:Blk) (g':Gh),JO F S S' g g' a w/\Own w (.sl e xs) v S0/\(∀b,S0 b->g.fp r b)/\(∀b,S0 b->¬g'.fp r b)/\(∀c,c≠r->g'.fp c=g.fp c) /\
  (∀c,c≠r->CZ S c->S'.at c=S.at c)/\CZ S r:=by
 obtain⟨e0,rows,q,rfl⟩:=Qn Y;obtain⟨e1,rows1,blk,off,len,cap,O,Q,Z,k4,k5⟩:=X;rw[q]at O;cases O;obtain⟨u,L,G⟩:=h.C8 r _ q;rw[Q]at L;cases L;obtain⟨S0,fp',o1,o2,o3,J,o5⟩:=Own.hole G Z k5;have E:=h.AFz (w':=w) (ys:=Ju rows i j .top) (fp':=fp') q Q Uh Still.refl (fun _ _ _=>rfl) o2 (fun b B=>h.Hr r ⟨_,q⟩ b (J b B)) (fun c I H b B=>h.dis r c ⟨_,q⟩ I (Ne.symm H) b (J b B))
  (fun id y B=>h.Ft r id ⟨_,q⟩ y (J _ B))
 refine⟨S0,_,⟨E,ACk q Uh,fun id y=>AeR y,AMF,rfl,rfl,rfl,?_⟩,o1,o3,?_,?_,AeQ q,⟨_,q⟩⟩
 .grind
 .grind
 grind
theorem AFl{r:CV}{ls:List AU}(h:onR r ls=false):∀l∈ls,l.CA≠some r:=by
 induction ls with
 |nil=>simp|cons l ls c=>
  grind[onR,Bool.or_eq_false_iff,decide_eq_false_iff_not]
def AXg(F:Fix)(S:St)(g:Gh)(w:World)(cs:List T)(vs:List Value)(nf:Nat->Blk):Prop:=
 vs.length=cs.length/\(∀(c:Nat) x,cs[c]?=some x->∃v,vs[c]?=some v/\Own w x v (nf c)) /\
  (∀c b,c<cs.length->nf c b->¬F.K b)/\(∀c r b,c<cs.length->CZ S r->nf c b->¬g.fp r b)/\(∀c id,c<cs.length->(get S.bx id).isSome->¬nf c (g.β id)) /\
  ∀c c' b,c<cs.length->c'<cs.length->c≠c'->nf c b->¬nf c' b
theorem jF{ls:List AU}{cs:List T}{vs:List Value}(h:Inv F S g a w)(hn:∀x,AU.ow x∉ls)(Y:vs.length=ls.length)
 (hok:∀(c:Nat) (l:AU),ls[c]?=some l->∃v,vs[c]?=some v/\(∀r,l.CA=some r->CZ S r->B1 F S g w (fun _=>False) l v)/\(l.CA=none->B1 F S g w (fun _=>False) l v))
 (G:Dm S ls=some (S',cs)) :
 ∃g',JO F S S' g g' a w /\
 ∃nf:Nat->Blk,AXg F S' g' w cs vs nf/\∀c b,c<cs.length->nf c b->∃l r,ls[c]?=some l/\l.CA=some r/\CZ S r/\g.fp r b:=by
 induction ls generalizing S S' g cs vs with
 |nil=>
  simp only[Dm,AE,A5]at G;obtain⟨rfl,rfl⟩:=G;exact⟨g,WO.toG ⟨h,fun _ _ h=>h,fun _ h=>h,rfl⟩,fun _ _=>False,⟨Y,by simp,by simp,by simp,by simp,by simp⟩,by simp⟩
 |cons l ls ih=>
  obtain⟨v,vs,rfl⟩:∃v vs',vs=v::vs':=by cases vs with|nil=>simp at Y|cons v vs=>exact⟨v,vs,rfl⟩
  simp only[AH,Hj]at Y;have hn':∀x,AU.ow x∉ls:=fun x Q=>hn x (A3 _ Q)
  obtain⟨v0,hv0,hroot,hnone⟩:=hok 0 l rfl;simp only[AP,AE]at hv0;subst hv0;have step:∀(r:CV) (_:l.CA=some r) (y:T) (S0:Blk) (S1 S2:St) (g1:Gh) (B:List T),JO F S S1 g g1 a w->CZ S r->(∀b,S0 b->g.fp r b)->(∀b,S0 b->CZ S1 r->¬g1.fp r b)->(∀l'∈ls,∀v',(∀H,l'.CA=some H->CZ S H->B1 F S g w (fun _=>False) l' v')->(l'.CA=none->B1 F S g w (fun _=>False) l' v') ->
   (∀H,l'.CA=some H->CZ S1 H->B1 F S1 g1 w (fun _=>False) l' v')/\(l'.CA=none->B1 F S1 g1 w (fun _=>False) l' v'))->Own w y v S0->Dm S1 ls=some (S2,B) ->
   ∃g2,JO F S S2 g g2 a w/\∃nf:Nat->Blk,AXg F S2 g2 w (y::B) (v::vs) nf/\∀c b,c<(y::B).length->nf c b->∃l' r,(l::ls)[c]?=some l'/\l'.CA=some r/\CZ S r/\g.fp r b:=by
   intro r hlr y S0 S1 S2 g1 B hT1 J hS0 hdis hleaf hO L;obtain⟨g2,hT2,nf,hT,hnf⟩:=ih (S:=S1) (S':=S2) (g:=g1) (cs:=B) (vs:=vs) hT1.inv hn' Y (by
    intro c l' X;obtain⟨v',hv',hk1,hk2⟩:=hok (c+1) l' (by simpa using X);have:=hleaf l' (Ar X) v' hk1 hk2;exact⟨v',by simpa using hv',this.1,this.2⟩) L
   obtain⟨t1,t2,t3,t4,t5,t6⟩:=hT;have hTT:=hT1.trans hT2;have hS0':∀H b,CZ S2 H->S0 b->¬g2.fp H b:=by
    intro H b I E Z;have hb1:=hT2.fp H b Z;have hal1:=hT2.al H I;by_cases hrr:H=r
    .subst hrr;exact hdis b E hal1 hb1
    .exact h.dis r H J (hT1.al H hal1) (Ne.symm hrr) b (hS0 b E) (hT1.fp H b hb1)
   refine⟨g2,hTT,fun c=>match c with|0=>S0|c+1=>nf c,⟨by simpa using t1,?_,?_,?_,?_,?_⟩,?_⟩
   .intro c y' hy';cases c with|zero=>simp only[AP,AE]at hy';subst hy';exact⟨v,rfl,hO⟩|succ c=>exact t2 c y' (by simpa using hy')
   .intro c b O E;cases c with|zero=>exact h.Hr r J b (hS0 b E)|succ c=>exact t3 c b (by simpa using O) E
   .intro c H b O I E;cases c with|zero=>exact hS0' H b I E|succ c=>exact t4 c H b (by simpa using O) I E
   .intro c id O hid E;cases c with|zero=>rw[hTT.β]at E;exact h.Ft r id J (hTT.bx id hid) (hS0 _ E)|succ c=>exact t5 c id (by simpa using O) hid E
   .have hcross:∀c b,c<B.length->S0 b->¬nf c b:=by
     intro c b O E Z;obtain⟨_,H,_,_,I,hf⟩:=hnf c b O Z;by_cases hrr:H=r
     .subst hrr;exact hdis b E I hf
     .exact h.dis r H J (hT1.al H I) (Ne.symm hrr) b (hS0 b E) (hT1.fp H b hf)
    intro c c' b O hc' hne E;cases c with
    |zero=>
     cases c' with
     |zero=>exact(hne rfl).elim|succ c'=>exact hcross c' b (by simpa using hc') E
    |succ c=>
     cases c' with
     |zero=>exact fun Z=>hcross c b (by simpa using O) Z E|succ c'=>exact t6 c c' b (by simpa using O) (by simpa using hc') (by omega) E
   .intro c b O E;cases c with
    |zero=>exact⟨l,r,rfl,hlr,J,hS0 b E⟩|succ c=>
     obtain⟨l',H,X,hlr',I,hf⟩:=hnf c b (by simpa using O) E;exact⟨l',H,by simpa using X,hlr',hT1.al H I,hT1.fp H b hf⟩
  have stepO:∀(r:CV) (_:l.CA=some r) (x y:T) (S0:Blk) (S1:St) (B:List T),S.at r=some (.ow x)->(∀b,S0 b->g.fp r b)->Own w y v S0->Dm (S.out r) ls=some (S1,B) ->
   ∃g2,JO F S S1 g g2 a w/\∃nf:Nat->Blk,AXg F S1 g2 w (y::B) (v::vs) nf/\∀c b,c<(y::B).length->nf c b->∃l' r,(l::ls)[c]?=some l'/\l'.CA=some r/\CZ S r/\g.fp r b:=by
   intro r hlr x y S0 S1 B Q hS0 hO L;refine step r hlr y S0 (S.out r) S1 g B (ADH h Q).toG ⟨x,Q⟩ hS0 (fun b _ J=>absurd rfl (J1 Q J).1) ?_ hO L;intro l' _ v' hk1 hk2;refine⟨?_,fun hr=>(hk2 hr).out Q (by simp[hr])⟩;intro H I J;have:=J1 Q J;exact(hk1 H I this.2).out Q (by rw[I];simpa using this.1)
  cases l with
  |t x=>
   simp only[Dm]at G;split at G
   .cases G
   .rename_i htop;split at G
    .rename_i S1 B L;simp only[AE,A5]at G;obtain⟨rfl,rfl⟩:=G;obtain⟨g1,htaken,nf,hT,hnf⟩:=ih (S:=S) (S':=S1) (g:=g) (cs:=B) (vs:=vs) h hn' Y (by
      intro c l' X;obtain⟨v',hv',hk⟩:=hok (c+1) l' (by simpa using X);exact⟨v',by simpa using hv',hk⟩) L
     obtain⟨t1,t2,t3,t4,t5,t6⟩:=hT;have hsc:Sc x v:=hnone rfl;refine⟨g1,htaken,fun c=>match c with|0=>fun _=>False|c+1=>nf c,⟨by simpa using t1,?_,?_,?_,?_,?_⟩,?_⟩
     .intro c y' hy';cases c with|zero=>simp only[AP,AE]at hy';subst hy';exact⟨v,rfl,.sc hsc (hsc.one (by simpa using htop)) fun _ h=>h⟩|succ c=>exact t2 c y' (by simpa using hy')
     .intro c b O E;cases c with|zero=>exact E.elim|succ c=>exact t3 c b (by simpa using O) E
     .intro c H b O I E;cases c with|zero=>exact E.elim|succ c=>exact t4 c H b (by simpa using O) I E
     .intro c id O hid E;cases c with|zero=>exact E.elim|succ c=>exact t5 c id (by simpa using O) hid E
     .intro c c' b O hc' hne E;cases c with
      |zero=>exact E.elim|succ c=>
       cases c' with
       |zero=>exact fun Z=>Z.elim|succ c'=>exact t6 c c' b (by simpa using O) (by simpa using hc') (by omega) E
     .intro c b O E;cases c with|zero=>exact E.elim|succ c=>exact hnf c b (by simpa using O) E
    .cases G
  |al r sub=>
   simp only[Dm]at G;split at G
   .rename_i x Q;split at G
    .rename_i S1 B L;simp only[AE,A5]at G;obtain⟨rfl,rfl⟩:=G;obtain⟨x',u,hx',hu,hsub⟩:=hroot r rfl ⟨x,Q⟩;rw[Q]at hx';cases hx';have hown:Own w x u (g.fp r):=by
      obtain⟨u',hu',hk⟩:=h.C8 r _ Q;rw[hu]at hu';cases hu';exact hk
     obtain⟨S0,hS0,hO⟩:=Vz hown hsub;exact stepO r rfl x _ S0 S1 B Q hS0 hO L
    .cases G
   .cases G
  |vw s e xs=>
   cases s with
   |old k=>simp[Dm]at G|own r p=>
    cases p with
    |none=>
     simp only[Dm]at G;split at G
     .rename_i x Q;split at G
      .rename_i S1 B L;simp only[AE,A5]at G;obtain⟨rfl,rfl⟩:=G;obtain⟨_,⟨S0,hS0,hO⟩,_⟩:=hroot r rfl ⟨x,Q⟩;exact stepO r rfl x _ S0 S1 B Q hS0 hO L
      .cases G
     .cases G
    |some q=>
     obtain⟨i,j⟩:=q;simp only[Dm]at G;split at G
     .cases G
     .rename_i hon;split at G
      .rename_i S1 hpl;split at G
       .rename_i S2 B L;simp only[AE,A5]at G;obtain⟨rfl,rfl⟩:=G;obtain⟨e0,rows,Q,_⟩:=Qn hpl;obtain⟨_,_,hat⟩:=hroot r rfl ⟨_,Q⟩;obtain⟨S0,g1,q1,q2,q3,q4,q5,q6,q7⟩:=h.pull hpl hat;refine step r rfl _ S0 S1 S2 g1 B q1 q7 q3 (fun b E _=>q4 b E) ?_ q2 L;intro l' X v' hk1 hk2;have hne:=AFl (by simpa using hon) l' X;exact⟨fun H I J=>(hk1 H I (q1.al H J)).off hne q6 q5 q1.rv q1.β,fun hr=>(hk2 hr).off hne q6 q5 q1.rv q1.β⟩
       .cases G
      .cases G
  |ow x=>exact(hn x (by simp)).elim|und=>simp[Dm]at G|ep _ _ _=>simp[Dm]at G|vp s cs=>simp[Dm]at G|bp _ _=>simp[Dm]at G|fn _ _=>simp[Dm]at G
end
end Lv
