/- The light machine is right about the program's code. -/
import GoSem.Core.Value
import GoSem.Core.Ast
import GoSem.Core.View
import Derived.Calls
import Derived.Laws.CopyRow
import Derived.Laws.IdiomCopy
import GoSem.Dispatch
import Derived.Orders
import Derived.WalkKit
import Derived.Laws.Concat
import Derived.Laws.StructEq
import Derived.Lib.SliceRun
import Derived.Laws.Cover3
import Derived.Laws.Tables
import Derived.Laws.MakeOwn
import Derived.Lib.ConvBytes
import Derived.Laws.BytesString
set_option linter.all false
open Array renaming getD_eq_getD_getElem?->DI,getElem?_eq_some_iff->BJ,getElem?_modify->Gn,getElem?_push->HW,length_toList->Bi,size_map->Mp,toArray_toList->G9,toList_setIfInBounds->Hq
open Bool renaming and_eq_false_iff->JO,and_eq_true->AD,and_true->Ce,not_eq_true->Es,not_eq_true'->BE,or_eq_true->DJ
open List renaming all_eq_true->B2,append_assoc->BF,cons_append->A8,drop_drop->DD,extract_eq_drop_take'->Hs,flatMap_cons->CV,getElem?_cons_succ->CG,getElem?_cons_zero->AN,getElem?_drop->Bw,getElem?_eq_some_iff->AO,getElem?_map->A0,getElem?_of_mem->B0,getElem?_set->Eb,getElem?_take->CE,getElem?_toArray->BU,length_cons->AK,length_nil->AT,mem_cons->Ae,mem_cons_of_mem->Am,mem_map->Ef,mem_of_getElem?->A4,mem_of_mem_drop->DG,mem_of_mem_take->Fg,mem_or_eq_of_mem_set->Cb,nil_append->Az,size_toArray->A7,take_succ_cons->Cs
open Nat renaming add_assoc->CW,add_mul->Bc,add_right_cancel_iff->IM,add_zero->DV,le_refl->Aj,lt_irrefl->J3,lt_of_lt_of_le->BZ,mul_le_mul_right->Ap,ne_of_lt->Oe,zero_add->A1,zero_le->ER
open Option renaming isSome_iff_exists->Bq,isSome_map->FG,map_eq_some_iff->AM,map_some->As
open Option.some renaming injEq->AE
open Prod.mk renaming injEq->BC
open Go.Region renaming ready->Bl
open Go.Result renaming andThen_ok->D1
open Go.Sem renaming run_bind->Ao
@[reducible] def AA.{u} (d:Type u):=Option d
namespace Lv
open Go (IntKind BinOp UnOp)
theorem AY{c}{h:Decidable c}(j:c){d}{t e:d}:(ite c t e)=t:=if_pos j
theorem Aa{c}{h:Decidable c}(j:¬c){d}{t e:d}:(ite c t e)=e:=if_neg j
inductive T where
 |top|un|int(k:IntKind)(n:Int)|bool(b:Bool)|str(s:List UInt8)|nil|np|sl(e:Nat)(xs:List (List T))|mp(ks:List (Int×Int))
inductive CN where
 |tmp(s c:Nat)|cell(b c:Nat)
 deriving DecidableEq
inductive Src where
 |own(r:CN)(p:Option (Nat×Nat))|old(k:Nat)
 deriving DecidableEq
inductive Md where
 |v|p|b|o|m
 deriving DecidableEq
inductive Sh where
 |one|agg|tup(ns:List (Option Nat))|ptr(k:Nat)|vw(k:Nat)|T8(k n:Nat)
inductive Kd where
 |i|b|s
 deriving DecidableEq
inductive Cls where
 |num|bool|sl|agg(ks:List Kd)
 deriving DecidableEq
mutual
inductive Opd where
 |tmp(t:Nat)|k(x:T)|fn(f:CQ)
inductive XOp where
 |mv(d:Nat)(x:Opd)|as(d:Nat)(x:Opd)|pick(d:Nat)(c a b:Opd)|alloc(d:Nat)(zs:List T)|box(d:Nat)(x:Opd)|build(d:Nat)(zs:List T)(parts:List (Nat×Nat×Opd))|CF(d:Nat)(n:Nat)(zs:List T)(parts:List (Nat×Opd))|ld(d:Nat)(n:Option Nat)(x:Opd)|st(n:Nat)(x v:Opd)|chk(d:Nat)(x:Opd)|bin(d:Nat)(c:Cls)(op:BinOp)(x y:Opd)|un(d:Nat)(op:UnOp)(x:Opd)|cvI(d:Nat)(k:IntKind)(x:Opd)|OK(d:Nat)(x:Opd)|RA(d:Nat)(x:Opd)|O0(d:Nat)(f:CQ)(caps:List Opd)|T6(d:Nat)(zs:List T)(n c:Opd)|sub(d:Nat)(e:Nat)(x:Opd)(lo hi:Option Opd)|Xl(d:Nat)(x:Opd)(lo hi:Option Opd)|fa(d:Nat)(off:Nat)(x:Opd)|fld(d:Nat)(off:Nat)(n:Option Nat)(x:Opd)|ia(d:Nat)(e:Nat)(x i:Opd)|ix(d:Nat)(x i:Opd)|ext(d:Nat)(x:Opd)(i:Nat)|call(d:Nat)(f:CQ)(args:List Opd)|Eh(d:Nat)(f:Opd)(ms:List Md)(args:List Opd)|len(d:Nat)(x:Opd)|lens(d:Nat)(x:Opd)|app(d:Nat)(e:Nat)(fl:Bool)(x y:Opd)|UA(d:Nat)(zs:List T)(x n:Opd)|cpy(d:Nat)(e:Nat)(x y:Opd)|mm(d:Nat)(isMax:Bool)(x y:Opd)|mmk(d:Nat)|WT(d:Nat)(x k:Opd)|VD(x k v:Opd)|WU(d:Nat)(x:Opd)|bad(d:Option Nat)|drop(ds:List Nat)|SL(ns:List (CN×Nat))
inductive T4 where
 |nil|op(i:Nat)(g:Option (Nat×Bool))(sf:List Nat)(o:XOp)(rest:T4)|dr(ds:List Nat)(rest:T4)|nl(ns:List (CN×Nat))(rest:T4)|both(a b:T4)
inductive PY where
 |skip|region(ops:List (Option (Nat×Bool)×XOp))(FZ:List Nat)|W9(r:T4)(FZ:List Nat)|seq(a b:PY)|cond(c:Nat)(kt ke:List Nat)(t e:PY)|block(id:Nat)(b:PY)|loop(b:PY)|exit(id:Nat)|ret|scope(b:PY)|or(a b:PY)|dead|VM(a b:List (Option (Nat×Bool)×XOp))(FZ:List Nat)(d p c e:Nat)
inductive IF where
 |tmp(t:Nat)|cell(t:Nat)(n:Option Nat)|bx(t:Nat)|vw(t k:Nat)|un(t n:Nat)
inductive CQ where
 |mk(ms:List Md)(rs:List IF)(body:PY)|OW(id:Nat)(ms:List Md)
end
inductive AS where
 |t(x:T)|und|ow(x:T)|al(r:CN)(sub:Option (Nat×Nat))|ep(r:CN)(i j:Nat)|vw(s:Src)(e:Nat)(xs:List (List T))|vp(s:Src)(cs:List T)|bp(id off:Nat)|fn(f:CQ)(caps:List AS)
structure Ent where
 sh:Sh
 cs:List AS
structure St where
 tm:List (Nat×Ent)
 bx:List (Nat×List AS)
 pin:List Nat:=[]
inductive V where
 |v(sh:Sh)(cs:List T)|f(xf:CQ)(caps:List V)|p(cs:List T)|b(cs:List T)|o(sh:Sh)(cs:List T)|m(sh:Sh)(cs:List T)
abbrev Rel:=CQ->List V->Sh->List T->List (List T)->Prop
def get{d:Type}:List (Nat×d)->Nat->Option d| [],_=>none|(k,a)::r,s=>if k=s then some a else get r s
def put{d:Type}:List (Nat×d)->Nat->d->List (Nat×d)| [],s,a=>[(s,a)]|(k,b)::r,s,a=>if s=k then (s,a)::r else if s<k then (s,a)::(k,b)::r else (k,b)::put r s a
def Hi{d:Type}(ks:List Nat):List (Nat×d)->List (Nat×d)| []=>[]|(k,b)::r=>if k∈ks then (k,b)::Hi ks r else Hi ks r
def AS.CA:AS->Option CN|.al r _|.ep r _ _|.vw (.own r _) _ _|.vp (.own r _) _=>some r|_=>none
def AS.Nn:AS->Option Nat|.bp id _=>some id|.al (.cell id _) _|.ep (.cell id _) _ _|.vw (.own (.cell id _) _) _ _|.vp (.own (.cell id _) _) _=>some id|_=>none
def AS.plain:AS->Bool|.t _|.und|.vw (.old _) _ _|.vp (.old _) _|.bp _ _=>true|_=>false
def FD(q:AS->Bool):List AS->List AS| []=>[]|l::ls=>(if q l then .t .top else l)::FD q ls
def M6(q:AS->Bool):List (Nat×Ent)->List (Nat×Ent)| []=>[]|(k,e)::r=>(k,⟨e.sh,FD q e.cs⟩)::M6 q r
def M5(q:AS->Bool):List (Nat×List AS)->List (Nat×List AS)| []=>[]|(k,e)::r=>(k,FD q e)::M5 q r
def St.kill(S:St)(q:AS->Bool):St:={ S with tm:=M6 q S.tm,bx:=M5 q S.bx}
def NP(r:CN)(l:AS):Bool:=l.CA=some r
def GS(r:CN):AS->Bool|.vw (.own r' _) _ _|.vp (.own r' _) _=>r'=r|_=>false
def Fb(d:Nat)(l:AS):Bool:=match l.CA with|some (.tmp s _)=>s=d|_=>false
def Gb(d:Nat):AS->Bool|.fn _ caps=>caps.any λl=>decide (l.Nn=some d)|l=>decide (l.Nn=some d)
def NO(ks:List Nat):AS->Bool
 |.fn _ caps=>caps.any λl=>match l.Nn with|some d=>decide (d∉ks)|none=>false
 |l=>match l.Nn with|some d=>decide (d∉ks)|none=>false
def Ji(ks:List Nat)(l:AS):Bool:=
 (match l.CA with|some (.tmp s _)=>decide (s∉ks)|_=>false)||NO ks l
def LH{d:Type}(ks:List Nat):List (Nat×d)->List (Nat×d)| []=>[]|(k,b)::r=>if k∈ks then LH ks r else (k,b)::LH ks r
def cL(ks:List Nat)(l:AS):Bool:=match l.CA with|some (.tmp s _)=>decide (s∈ks)|_=>false
def St.JT(S:St)(ks:List Nat):St:={ S with tm:=M6 (cL ks) (LH ks S.tm),bx:=M5 (cL ks) S.bx}
def St.clean(S:St)(ks:List Nat):St:={ S with tm:=M6 (Ji ks) (Hi ks S.tm),bx:=M5 (Ji ks) (Hi ks S.bx)}
def St.at(S:St):CN->Option AS
 |.tmp s c=>match get S.tm s with|some e=>e.cs[c]?|none=>none
 |.cell b c=>match get S.bx b with|some ls=>ls[c]?|none=>none
def St.Bk(S:St)(r:CN)(l:AS):St:=
 match r with
 |.tmp s c=>match get S.tm s with|some e=>{ S with tm:=put S.tm s ⟨e.sh,e.cs.set c l⟩}|none=>S
 |.cell b c=>match get S.bx b with|some ls=>{ S with bx:=put S.bx b (ls.set c l)}|none=>S
def content:T->Option (List (List T))|.nil=>some []|.sl _ xs=>some xs|_=>none
def K6(sub:Option (Nat×Nat))(xs:List (List T)):List (List T):=
 match sub with
 |none=>xs|some (lo,n)=>(xs.drop lo).take n
def qD(sub:Option (Nat×Nat)):T->T|.sl e xs=>.sl e (K6 sub xs)|x=>x
def St.elems(S:St):AS->Option (List (List T))
 |.al r sub=>match S.at r with|some (.ow x)=>(content x).map (K6 sub)|_=>none
 |.vw _ _ xs=>some xs|.t .nil=>some []|_=>none
def AS.ali(s c:Nat):AS->AS|.ow _=>.al (.tmp s c) none|l=>l
def T9(s:Nat):Nat->List AS->List AS|_,[]=>[]|c,l::ls=>l.ali s c::T9 s (c+1) ls
def tE:T->AS|.sl e xs=>.vw (.old 0) e xs|x=>.t x
def St.rd(S:St):Opd->Option Ent
 |.tmp s=>match get S.tm s with|some e=>some ⟨e.sh,T9 s 0 e.cs⟩|none=>none
 |.k x=>some ⟨.one,[tE x]⟩|.fn f=>some ⟨.one,[.fn f []]⟩
def St.rds(S:St):List Opd->Option (List Ent)
 | []=>some []|x::xs=>match S.rd x,S.rds xs with|some e,some es=>some (e::es)|_,_=>none
def St.Eo(S:St)(d:Nat)(e:Ent):Option St:=
 if d∈S.pin then none else match get S.tm d with
  |none=>some { S with tm:=put S.tm d e}
  |some _=>some { S with tm:=put (M6 (Fb d) S.tm) d ⟨e.sh,FD (Fb d) e.cs⟩,bx:=M5 (Fb d) S.bx}
def names:AS->List Nat
 |.bp id _=>[id]|.fn _ caps=>caps.filterMap λl=>match l with|.bp id _=>some id|_=>none
 |_=>[]
def VQ(l l':AS):Bool:=
 (match l.CA with|some r=>decide (l'.CA=some r)|none=>false)||(names l).any (λid=>Gb id l')||(names l').any (λid=>Gb id l)
def Td(l l':AS):Bool:=
 (match l.CA with|some r=>decide (l'.CA=some r)|none=>false)||(names l).any (λid=>Gb id l')
def yX:AS->Bool|.al _ _=>true|_=>false
def QQ:List AS->Bool| []=>true|l::ls=>(ls.all λl'=>!((yX l||yX l')&&decide (l.CA=l'.CA)))&&QQ ls
def St.out(S:St)(r:CN):St:=(S.Bk r (.t .top)).kill (NP r)
def St.nl0(S:St)(r:CN)(e:Nat):AS:=match r with|.cell id _=>(if id∈S.pin then .vw (.old id) e [] else .ow (.sl e []))|.tmp _ _=>.ow (.sl e [])
def St.turn(S:St)(r:CN):St:=match S.at r with
 |some (.al r' none)=>match S.at r' with|some (.ow x)=>((S.out r').Bk r (.ow x)).Bk r' (.al r none)|_=>S
 |_=>S
def St.cj(S:St)(r:CN)(e:Nat):St:=if e=0 then S.turn r else match S.at r with|some (.t .nil)=>S.Bk r (S.nl0 r e)|_=>S
def St.TR(S:St):List (CN×Nat)->St| []=>S|(r,e)::ns=>St.TR (S.cj r e) ns
def LO:St->List AS->Option (St×List AS)
 |S,[]=>some (S,[])|S,l::ls=>match l with
  |.al r sub=>match S.at r with
   |some (.ow x)=>match LO (S.out r) ls with|some (S',ls')=>some (S',.ow (qD sub x)::ls')|none=>none
   |_=>none
  |l=>match LO S ls with|some (S',ls')=>some (S',l::ls')|none=>none
def M8(S:St)(ls:List AS):Option (St×List AS):=if QQ ls=true then LO S ls else none
def uo(S:St)(x:Opd)(ls:List AS):Option (St×List AS):=match x with|.tmp s=>if s∈S.pin then some (S,ls) else M8 S ls|_=>M8 S ls
def T1:T->Bool|.top=>true|_=>false
def cQ:T->Bool|.top=>true|.un=>true|_=>false
def at2(xs:List (List T))(i j:Nat):Option T:=match xs[i]? with|some row=>row[j]?|none=>none
def Src.up:Src->Src|.own r _=>.own r none|s=>s
def KN(rows:List (List T))(i j:Nat)(x:T):List (List T):=rows.set i ((rows.getD i []).set j x)
def St.pull(S:St)(r:CN)(i j:Nat):Option St:=
 match S.at r with
 |some (.ow (.sl e rows))=>some ((S.Bk r (.ow (.sl e (KN rows i j .top)))).kill (GS r))|_=>none
def onR(r:CN):List AS->Bool| []=>false|l::ls=>decide (l.CA=some r)||onR r ls
def D5:St->List AS->Option (St×List T)
 |S,[]=>some (S,[])|S,l::ls=>match l with
  |.t x=>if T1 x=true then none else match D5 S ls with|some (S',cs)=>some (S',x::cs)|none=>none
  |.al r sub=>match S.at r with
   |some (.ow x)=>match D5 (S.out r) ls with|some (S',cs)=>some (S',qD sub x::cs)|none=>none
   |_=>none
  |.vw (.own r p) e xs=>match p with
   |none=>match S.at r with
    |some (.ow _)=>match D5 (S.out r) ls with|some (S',cs)=>some (S',.sl e xs::cs)|none=>none
    |_=>none
   |some (i,j)=>if onR r ls=true then none else match S.pull r i j with
    |some S1=>match D5 S1 ls with|some (S',cs)=>some (S',.sl e xs::cs)|none=>none
    |none=>none
  |_=>none
def St.IT(S:St):AS->Option T
 |.t x=>some x|.al r sub=>match S.at r with|some (.ow x)=>some (qD sub x)|_=>none
 |.vw _ e xs=>some (.sl e xs)|.ow x=>some x|_=>none
def St.IL(S:St):List AS->Option (List T)
 | []=>some []|l::ls=>match S.IT l,S.IL ls with|some x,some xs=>some (x::xs)|_,_=>none
def Ra(k:Nat):AS->Option T|.t x=>some x|.vw (.old k') e xs=>if k'=k then some (.sl e xs) else none|_=>none
def F6(k:Nat):List AS->Option (List T)
 | []=>some []|l::ls=>match Ra k l,F6 k ls with|some x,some xs=>some (x::xs)|_,_=>none
def Df:List AS->Nat| []=>0|.vw (.old k) _ _::_=>k|_::ls=>Df ls
def Ew(k:Nat):T->AS|.sl e xs=>.vw (.old k) e xs|.mp _=>.t .top|x=>.t x
def I0:T->AS|.sl e xs=>.ow (.sl e xs)|.mp ks=>.ow (.mp ks)|.nil=>.ow .nil|x=>.t x
def MR(s:Src):T->AS|.sl e xs=>.vw s e xs|.mp _=>.t .top|x=>.t x
def Qy:List AS->Bool| []=>true|l::ls=>l.CA.isNone&&Qy ls
def ALY(S:St):AS->Option V
 |.t x=>some (.v .one [x])|.vw (.old _) e xs=>some (.v .one [.sl e xs])|.bp id off=>match get S.bx id with|some ls=>if Qy ls=true then (S.IL (ls.drop off)).map .p else none|none=>none
 |.vp (.old _) cs=>some (.p cs)|_=>none
def iM(S:St):List AS->Option (List V)
 | []=>some []|l::ls=>match ALY S l,iM S ls with|some x,some xs=>some (x::xs)|_,_=>none
def Hz:Sh->Nat->Bool|.one,n=>n==1|.agg,_=>true|_,_=>false
def TX:AS->Bool|.t _|.al _ none|.vw (.own _ (some _)) _ _=>true|_=>false
def IN:St->List AS->List T->Option St
 |S,[],[]=>some S|S,l::ls,o::os=>match l with
  |.al r none=>IN (S.Bk r (.ow o)) ls os|.vw (.own r (some (i,j))) _ _=>match S.at r with|some (.ow (.sl e rows))=>IN ((S.Bk r (.ow (.sl e (KN rows i j o)))).kill (GS r)) ls os|_=>none
  |.t _=>IN S ls os|_=>none
 |_,_,_=>none
def UB(S:St)(md:Md)(e:Ent):Option V:=
 match md with
 |.v=>match e with
  |⟨.one,[.fn f caps]⟩=>match iM S caps with|some cs=>some (.f f cs)|none=>none
  |e=>match S.IL e.cs with|some cs=>some (.v e.sh cs)|none=>none
 |.p=>match e with
  |⟨.one,[.bp id off]⟩=>match get S.bx id with
   |some ls=>if Qy ls=true then match S.IL (ls.drop off) with|some cs=>some (.p cs)|none=>none else none
   |none=>none
  |⟨.one,[.vp _ cs]⟩=>some (.p cs)|_=>none
 |.b=>match e with
  |⟨.one,[.bp id 0]⟩=>match get S.bx id with
   |some ls=>match F6 (Df ls) ls with|some cs=>some (.b cs)|none=>none
   |none=>none
  |_=>none
 |_=>none
def Md.Fl:Md->Bool|.o|.m=>true|_=>false
def IQ:List Md->List Ent->List AS|md::ms,e::es=>(if md.Fl=true then e.cs else [])++IQ ms es|_,_=>[]
def KK(S:St):List Md->List Ent->List T->Option (List V)
 | [],[],_=>some []|md::ms,e::es,cs=>match md with
  |.o=>match KK S ms es (cs.drop e.cs.length) with|some vs=>some (.o e.sh (cs.take e.cs.length)::vs)|none=>none
  |.m=>if e.cs.all TX=true/\Hz e.sh e.cs.length=true then match KK S ms es (cs.drop e.cs.length) with|some vs=>some (.m e.sh (cs.take e.cs.length)::vs)|none=>none else none
  |md=>match UB S md e,KK S ms es cs with|some v,some vs=>some (v::vs)|_,_=>none
 |_,_,_=>none
def FT:St->List Md->List Ent->St
 |S,md::ms,e::es=>match md with
  |.b=>match e with
   |⟨.one,[.bp id 0]⟩=>match get S.bx id with
    |some ls=>FT { S with bx:=put S.bx id (ls.map λ_=>.t .top)} ms es
    |none=>FT S ms es
   |_=>FT S ms es
  |_=>FT S ms es
 |S,_,_=>S
def Xz(S:St)(ms:List Md)(es:List Ent):Option (St×List V):=
 match D5 S (IQ ms es) with
 |some (S1,cs)=>match KK S ms es cs with|some vs=>some (FT S1 ms es,vs)|none=>none
 |none=>none
def GW(S0:St):St->List Md->List Ent->List (List T)->Option St
 |S,[],_,[]=>some S|S,md::ms,e::es,outs=>match md with
  |.b=>match e,outs with
   |⟨.one,[.bp id 0]⟩,o::outs=>match get S0.bx id,get S.bx id with
    |some ls,some ls1=>if o.length=ls1.length then GW S0 { S with bx:=put S.bx id (o.map (Ew (Df ls)))} ms es outs else none
    |_,_=>none
   |_,_=>none
  |.m=>match outs with
   |o::outs=>match IN S e.cs o with|some S'=>GW S0 S' ms es outs|none=>none
   |_=>none
  |_=>GW S0 S ms es outs
 |_,_,_,_=>none
def Md.writes:Md->Bool|.v|.p=>false|_=>true
def shares(e e':Ent):Bool:=e.cs.any λl=>e'.cs.any λl'=>VQ l l'
def Re:List Ent->List Md->List Ent->Bool|prev,md::ms,e::es=>(md.writes&&(prev.any (shares e)||es.any (shares e)))||Re (e::prev) ms es|_,_,_=>false
def FQ:CQ->List Md|.mk ms _ _=>ms|.OW _ ms=>ms
def Aai(sh:Sh)(cs:List T):Ent:=⟨sh,cs.map I0⟩
def lim:Nat:=268435456
def AHS:Option Ent->Option T|some ⟨.one,[.t x]⟩=>some x|_=>none
def St.sc(S:St)(x:Opd):Option T:=AHS (S.rd x)
def St.nat(S:St)(x:Opd):Option Int:=match S.sc x with|some (.int _ n)=>some n|_=>none
def St.ATL(S:St)(d:Int):Option Opd->Option Int|none=>some d|some o=>S.nat o
def St.one(S:St)(x:Opd):Option AS:=match S.rd x with|some ⟨.one,[l]⟩=>some l|_=>none
def QL:Nat:=4611686018427387904
def eqT:Kd->T->T->Option Bool|.i,.int k a,.int k' b=>if k=k' then some (a==b) else none|.b,.bool a,.bool b=>some (a==b)|.s,.str a,.str b=>some (a==b)|_,_,_=>none
def T5:List Kd->List T->List T->Option Bool
 | [],[],[]=>some true|k::ks,a::as,b::bs=>match eqT k a b,T5 ks as bs with|some x,some y=>some (x&&y)|_,_=>none
 |_,_,_=>none
def Xn:List AS->Option (List T)| []=>some []|.t x::ls=>(Xn ls).map (x::·)|_=>none
def eZ(op:BinOp)(k:IntKind)(a b:Int):Option T:=
 match op with
 |.add=>some (.int k (k.wrap (a+b)))|.sub=>some (.int k (k.wrap (a-b)))|.mul=>some (.int k (k.wrap (a*b)))|.quo=>if b=0 then none else some (.int k (k.wrap (a.tdiv b)))|.rem=>if b=0 then none else some (.int k (a.tmod b))|.and=>some (.int k (k.wrap (BitVec.ofInt k.bits a &&& BitVec.ofInt k.bits b).toNat))|.or=>some (.int k (k.wrap (BitVec.ofInt k.bits a |||BitVec.ofInt k.bits b).toNat))|.xor=>some (.int k (k.wrap (BitVec.ofInt k.bits a ^^^ BitVec.ofInt k.bits b).toNat))|.eql=>some (.bool (a==b))|.neq=>some (.bool (a != b))|.lss=>some (.bool (decide (a<b)))|.leq=>some (.bool (decide (a<=b)))|.gtr=>some (.bool (decide (a>b)))|.geq=>some (.bool (decide (a>=b)))|_=>none
def AHT(op:BinOp)(k:IntKind)(a b:Int):Option T:=
 if b<0 then none else
 match op with
 |.shl=>some (.int k (k.wrap (a*2 ^ (min b.toNat k.bits))))|.shr=>some (.int k (a.fdiv (2 ^ (min b.toNat k.bits))))|_=>none
def ALU(op:BinOp):T->T->Option T
 |.int k a,.int k' b=>match op with|.shl|.shr=>AHT op k a b|_=>if k=k' then eZ op k a b else none
 |.str a,.str b=>match op with|.add=>if a.length+b.length<=QL then some (.str (a++b)) else none|.eql=>some (.bool (a==b))|.neq=>some (.bool (a != b))|_=>none
 |.bool a,.bool b=>match op with|.eql=>some (.bool (a==b))|.neq=>some (.bool (a != b))|_=>none
 |_,_=>none
def St.XS(S:St):AS->Option Bool
 |.t .nil=>some true|.vw _ _ (_::_)=>some false|.al r none=>match S.at r with|some (.ow .nil)=>some true|some (.ow (.sl _ (_::_)))=>some false|_=>none
 |_=>none
def pe(op:BinOp)(b:Bool):Option T:=match op with|.eql=>some (.bool b)|.neq=>some (.bool !b)|_=>none
def iI(op:BinOp):T->T->Option T|.int k a,.int k' b=>ALU op (.int k a) (.int k' b)|.str a,.str b=>ALU op (.str a) (.str b)|_,_=>none
def St.bin(S:St)(c:Cls)(op:BinOp)(x y:Ent):Option T:=
 match c with
 |.num=>match x,y with|⟨.one,[.t a]⟩,⟨.one,[.t b]⟩=>iI op a b|_,_=>none
 |.bool=>match x,y with|⟨.one,[.t (.bool a)]⟩,⟨.one,[.t (.bool b)]⟩=>pe op (a==b)|_,_=>none
 |.sl=>match x,y with
  |⟨.one,[l]⟩,⟨.one,[.t .nil]⟩=>match S.XS l with|some b=>pe op b|none=>none
  |_,_=>none
 |.agg ks=>match x,y with
  |⟨.agg,as⟩,⟨.agg,bs⟩=>match Xn as,Xn bs with
   |some as,some bs=>match T5 ks as bs with|some b=>pe op b|none=>none
   |_,_=>none
  |_,_=>none
def unT(op:UnOp):T->Option T
 |.bool b=>match op with|.not=>some (.bool !b)|_=>none
 |.int k n=>match op with|.neg=>some (.int k (k.wrap (0-n)))|_=>none
 |_=>none
def LZ(s:List UInt8):List (List T):=s.map λb=>[.int .u8 b.toNat]
def byteOf:List T->Option UInt8| [.int .u8 n]=>some (UInt8.ofNat n.toNat)|_=>none
def bytesOf:List (List T)->Option (List UInt8)
 | []=>some []|x::xs=>match byteOf x,bytesOf xs with|some b,some bs=>some (b::bs)|_,_=>none
def flat:T->Bool|.sl _ _=>false|.top=>false|.mp _=>false|_=>true
def Ho(xs:List (List T)):Bool:=xs.all (·.all flat)
def ALT(e:Nat)(x:T)(ys:List (List T)):T:=match x with|.sl e xs=>.sl e (xs++ys)|_=>.sl e ys
def eOf(e:Nat):T->Bool|.sl e' _=>e'==e|_=>true
def RT(e:Nat)(fl:Bool)(S:St)(l:AS):Option (St×List (List T)):=
 match l with
 |.t (.str s)=>if e=1 then some (S,LZ s) else none|.t .nil=>some (S,[])|.vw _ e' xs=>if e'=e/\Ho xs=true then some (S,xs) else none|.al r sub=>match S.at r with
  |some (.ow x)=>match content x with|some xs=>if eOf e x=true then (if fl=true then (if Ho (K6 sub xs)=true then some (S,K6 sub xs) else none) else some (S.out r,K6 sub xs)) else none|none=>none
  |_=>none
 |_=>none
def toEnd(sub:Option (Nat×Nat))(len:Nat):Bool:=match sub with|none=>true|some (lo,n)=>lo+n==len
def Tv(e:Nat)(S:St)(l:AS):Option (St×T×Nat):=
 match l with
 |.t .nil=>some (S,.nil,0)|.al r sub=>match S.at r with
  |some (.ow x)=>match content x with|some xs=>if eOf e x=true/\toEnd sub xs.length=true then some (S.out r,qD sub x,(K6 sub xs).length) else none|none=>none
  |_=>none
 |.vw (.own r (some (i,j))) e' xs=>if e'=e then match S.pull r i j with|some S'=>some (S',.sl e xs,xs.length)|none=>none else none
 |_=>none
def OX(off:Nat):AS->Option AS|.bp id o=>some (.bp id (o+off))|.ep r i j=>some (.ep r i (j+off))|.vp s cs=>some (.vp s (cs.drop off))|_=>none
def K4(r:CN)(i:Nat):Nat->List T->List AS|_,[]=>[]|j,x::xs=>MR (.own r (some (i,j))) x::K4 r i (j+1) xs
def Ss(b:Nat):Nat->List AS->List AS|_,[]=>[]|c,.ow _::ls=>.al (.cell b c) none::Ss b (c+1) ls|c,l::ls=>l::Ss b (c+1) ls
def St.load(S:St)(n:Nat):AS->Option (List AS)
 |.bp id o=>match get S.bx id with|some ls=>if o+n<=ls.length then some (Ss id o ((ls.drop o).take n)) else none|none=>none
 |.ep r i j=>match S.at r with
  |some (.ow (.sl _ xs))=>match xs[i]? with|some cs=>if j+n<=cs.length then some (K4 r i j ((cs.drop j).take n)) else none|none=>none
  |_=>none
 |.vp s cs=>if n<=cs.length then some ((cs.take n).map (MR s.up)) else none|_=>none
def ES{d:Type}:List d->Nat->List d->List d|ls,_,[]=>ls|ls,o,c::cs=>ES (ls.set o c) (o+1) cs
def JH(b o n:Nat)(l:AS):Bool:=match l.CA with|some (.cell b' c)=>b'=b&&decide (o<=c)&&decide (c<o+n)|_=>false
def I6:List AS->Bool| []=>false|.t .top::_=>true|.und::_=>true|_::ls=>I6 ls
def af(n:Nat)(S:St)(ls:List AS):Option (St×List AS):=if n<1048576 then M8 S ls else some (S,ls)
def St.Tj(S:St)(n:Nat)(p:AS)(cs:List AS):Option St:=
 match p with
 |.bp id o=>match af n S cs with
  |some (S',cs')=>if I6 cs'=true then none else
   let S2:=S'.kill (JH id o cs'.length);match get S2.bx id with
   |some ls=>if o+cs'.length<=ls.length then some { S2 with bx:=put S2.bx id (ES ls o (FD (JH id o cs'.length) cs'))} else none
   |none=>none
  |none=>none
 |.ep r i j=>match D5 S cs with
  |some (S',ts)=>match S'.at r with
   |some (.ow (.sl e xs))=>match xs[i]? with|some row=>if j+ts.length<=row.length then some ((S'.Bk r (.ow (.sl e (xs.set i (ES row j ts))))).kill (GS r)) else none|none=>none
   |_=>none
  |none=>none
 |_=>none
def OI(S:St):List AS->List (Nat×Nat×Opd)->Option (List AS)
 |ls,[]=>some ls|ls,(o,n,x)::ps=>match S.rd x with|some e=>if e.cs.length=n/\Hz e.sh n=true/\I6 e.cs=false/\o+n<=ls.length then OI S (ES ls o e.cs) ps else none|none=>none
def rowsOf(n:Nat)(zs:List T):List (List T):=List.replicate n zs
def bsK(m n:Nat):St->List (List T)->List (Nat×Opd)->Option (St×List (List T))
 |S,xs,[]=>some (S,xs)|S,xs,(i,x)::ps=>match S.rd x with
  |some e=>if e.cs.length=m/\Hz e.sh e.cs.length=true/\i<n then match D5 S e.cs with
   |some (S',cs)=>bsK m n S' (xs.set i cs) ps|none=>none
   else none
  |none=>none
def ADO:Sh->Bool|.one=>true|_=>false
def St.T0:AS->Bool|.bp _ _|.ep _ _ _|.vp _ _=>true|_=>false
def Dx(n:Option Nat):Nat:=match n with|some k=>k|none=>1
def shN(n:Option Nat):Sh:=match n with|some _=>.agg|none=>.one
def VY:List (Option Nat)->Nat| []=>0|n::ns=>Dx n+VY ns
def St.range(S:St)(len:Nat)(lo hi:Option Opd):Option (Nat×Nat):=
 match S.ATL 0 lo,S.ATL len hi with
 |some a,some b=>if 0<=a/\a<=b/\b<=len then some (a.toNat,b.toNat) else none|_,_=>none
def St.wide(S:St)(e:Nat):AS->Bool
 |.vw _ e' _=>e'==e|.al r _=>match S.at r with|some (.ow x)=>eOf e x|_=>false
 |_=>true
def OV:List (Int×Int)->Int->Int| [],_=>0|(k,v)::r,n=>if n=k then v else OV r n
def K5:List (Int×Int)->Int->Int->List (Int×Int)| [],n,m=>[(n,m)]|(k,v)::r,n,m=>if n=k then (k,m)::r else (k,v)::K5 r n m
def St.SJ(S:St)(x:Opd):Option (CN×List (Int×Int)):=
 match S.one x with
 |some (.al r none)=>match S.at r with|some (.ow (.mp ks))=>some (r,ks)|_=>none
 |_=>none
def ev(o:XOp)(S:St):Option St:=
 match o with
 |.mv d x=>match S.rd x with|some e=>S.Eo d e|none=>none
 |.as d x=>match S.rd x with
  |some e=>match M8 S e.cs with|some (S',cs)=>S'.Eo d ⟨e.sh,cs⟩|none=>none
  |none=>none
 |.pick d c a b=>match S.sc c,S.rd a,S.rd b with|some (.bool t),some ea,some eb=>S.Eo d (if t=true then ea else eb)|_,_,_=>none
 |.alloc d zs=>if d∈S.pin then none else
  let S':=S.kill (λl=>Fb d l||Gb d l)
  some { S' with tm:=put S'.tm d ⟨.one,[.bp d 0]⟩,bx:=put S'.bx d (zs.map .t)}
 |.box d x=>match S.rd x with
  |some e=>match uo S x e.cs with
   |some (S1,cs)=>if d∈S1.pin\/I6 cs=true\/Hz e.sh e.cs.length=false then none else
    let q:=λl=>Fb d l||Gb d l
    let S':=S1.kill q
    some { S' with tm:=put S'.tm d ⟨.one,[.bp d 0]⟩,bx:=put S'.bx d (FD q cs)}
   |none=>none
  |none=>none
 |.build d zs parts=>match OI S (zs.map .t) parts with|some ls=>S.Eo d ⟨.agg,ls⟩|none=>none
 |.CF d n zs parts=>if n*zs.length<=16777216 then match bsK zs.length n S (rowsOf n zs) parts with
  |some (S',xs)=>S'.Eo d ⟨.one,[.ow (.sl zs.length xs)]⟩|none=>none
  else none
 |.ld d n x=>match S.one x with
  |some p=>match S.load (Dx n) p with|some ls=>S.Eo d ⟨shN n,ls⟩|none=>none
  |none=>none
 |.st n x v=>match S.one x,S.rd v with|some p,some e=>if e.cs.length=n % 1048576/\Hz e.sh (n % 1048576)=true then S.Tj n p e.cs else none|_,_=>none
 |.chk d x=>match S.one x with|some p=>if St.T0 p=true then S.Eo d ⟨.one,[p]⟩ else none|none=>none
 |.bin d c op x y=>match S.rd x,S.rd y with
  |some ex,some ey=>match S.bin c op ex ey with|some t=>S.Eo d ⟨.one,[.t t]⟩|none=>none
  |_,_=>none
 |.un d op x=>match S.sc x with
  |some a=>match unT op a with|some t=>S.Eo d ⟨.one,[.t t]⟩|none=>none
  |none=>none
 |.cvI d k x=>match S.nat x with|some n=>S.Eo d ⟨.one,[.t (.int k (k.wrap n))]⟩|none=>none
 |.OK d x=>match S.sc x with|some (.str s)=>S.Eo d ⟨.one,[.ow (.sl 1 (LZ s))]⟩|_=>none
 |.RA d x=>match S.one x with
  |some l=>match S.elems l with
   |some xs=>match bytesOf xs with|some bs=>S.Eo d ⟨.one,[.t (.str bs)]⟩|none=>none
   |none=>none
  |none=>none
 |.O0 d f caps=>match S.rds caps with|some es=>if (es.all λe=>ADO e.sh&&e.cs.length==1&&e.cs.all AS.plain)=true then S.Eo d ⟨.one,[.fn f (es.flatMap Ent.cs)]⟩ else none|none=>none
 |.T6 d zs n c=>match S.nat n,S.nat c with|some k,some k'=>if k'=k/\0<=k/\k<=lim then S.Eo d ⟨.one,[.ow (.sl zs.length (rowsOf k.toNat zs))]⟩ else none|_,_=>none
 |.Xl d x lo hi=>match S.sc x with
  |some (.str s)=>match S.range s.length lo hi with|some (a,b)=>S.Eo d ⟨.one,[.t (.str ((s.drop a).take (b-a)))]⟩|none=>none
  |_=>none
 |.sub d e x lo hi=>match S.one x with
  |some l=>match if S.wide e l=true then S.elems l else none with
   |some xs=>match S.range xs.length lo hi with
    |some (a,b)=>match l with|.al r none=>S.Eo d ⟨.one,[.al r (some (a,b-a))]⟩|.al r (some (lo0,_))=>S.Eo d ⟨.one,[.al r (some (lo0+a,b-a))]⟩|.vw s e' _=>S.Eo d ⟨.one,[.vw s.up e' ((xs.drop a).take (b-a))]⟩|l=>S.Eo d ⟨.one,[l]⟩
    |none=>none
   |none=>none
  |none=>none
 |.fa d off x=>match S.one x with
  |some p=>match OX off p with|some q=>S.Eo d ⟨.one,[q]⟩|none=>none
  |none=>none
 |.fld d off n x=>match S.rd x with|some ⟨.agg,cs⟩=>if off+Dx n<=cs.length then S.Eo d ⟨shN n,(cs.drop off).take (Dx n)⟩ else none|_=>none
 |.ia d e x i=>match S.one x,S.nat i with
  |some l,some n=>match S.elems l with
   |some xs=>if S.wide e l=true/\0<=n/\n<xs.length then match l with
    |.al r none=>S.Eo d ⟨.one,[.ep r n.toNat 0]⟩|.al r (some (lo,_))=>S.Eo d ⟨.one,[.ep r (lo+n.toNat) 0]⟩|.vw s _ _=>S.Eo d ⟨.one,[.vp s.up (xs.getD n.toNat [])]⟩|_=>none
    else none
   |none=>none
  |_,_=>none
 |.ix d x i=>match S.sc x,S.nat i with|some (.str s),some n=>if 0<=n/\n<s.length then S.Eo d ⟨.one,[.t (.int .u8 (s.getD n.toNat 0).toNat)]⟩ else none|_,_=>none
 |.ext d x i=>match x with
  |.tmp s=>match get S.tm s with
   |some ⟨.tup ns,cs⟩=>match ns[i]? with
    |some n=>
     let o:=VY (ns.take i);if o+Dx n<=cs.length then match M8 S (((T9 s 0 cs).drop o).take (Dx n)) with|some (S',ls)=>S'.Eo d ⟨shN n,ls⟩|none=>none
     else none
    |none=>none
   |_=>none
  |_=>none
 |.lens d x=>match S.sc x with|some (.str s)=>S.Eo d ⟨.one,[.t (.int .i64 s.length)]⟩|_=>none
 |.len d x=>match S.one x with
  |some l=>match S.elems l with|some xs=>S.Eo d ⟨.one,[.t (.int .i64 xs.length)]⟩|none=>none
  |none=>none
 |.app d e fl x y=>match S.one x,S.one y with
  |some lx,some ly=>match RT e fl S ly with
   |some (S1,ys)=>match Tv e S1 lx with|some (S2,b,n)=>if n+ys.length<=lim then S2.Eo d ⟨.one,[.ow (ALT e b ys)]⟩ else none|none=>none
   |none=>none
  |_,_=>none
 |.UA d zs x n=>match S.one x,S.nat n with
  |some lx,some k=>if 0<=k/\k<=lim then match Tv zs.length S lx with
   |some (S2,b,n)=>if n+k.toNat<=lim then S2.Eo d ⟨.one,[.ow (ALT zs.length b (rowsOf k.toNat zs))]⟩ else none|none=>none
   else none
  |_,_=>none
 |.cpy d e x y=>match S.one x,S.one y with
  |some (.al r none),some ly=>match S.at r,S.elems ly with
   |some (.ow (.sl e' xs)),some ys=>
    if e'=e/\S.wide e ly=true/\Ho ys=true/\Ho xs=true/\xs.isEmpty=false
    then ((S.Bk r (.ow (.sl e (ys.take xs.length++xs.drop ys.length)))).kill (GS r)).Eo d ⟨.one,[.t (.int .i64 (min ys.length xs.length:Nat))]⟩ else none
   |_,_=>none
  |_,_=>none
 |.mm d isMax x y=>match S.sc x,S.sc y with|some (.int k a),some (.int k' b)=>if k'=k then S.Eo d ⟨.one,[.t (.int k (if isMax=true then (if b>a then b else a) else (if b<a then b else a)))]⟩ else none|_,_=>none
 |.mmk d=>S.Eo d ⟨.one,[.ow (.mp [])]⟩|.WT d x k=>match S.SJ x,S.sc k with|some (_,ks),some (.int .i64 n)=>S.Eo d ⟨.one,[.t (.int .i64 (OV ks n))]⟩|_,_=>none
 |.VD x k v=>match S.SJ x,S.sc k,S.sc v with|some (r,ks),some (.int .i64 n),some (.int .i64 m)=>some ((S.Bk r (.ow (.mp (K5 ks n m)))).kill (GS r))|_,_,_=>none
 |.WU d x=>match S.SJ x with|some (_,ks)=>S.Eo d ⟨.one,[.t (.int .i64 ks.length)]⟩|none=>none
 |.bad _=>none|.drop ds=>some (S.JT ds)|.SL ns=>some (S.TR ns)|.call _ _ _=>none|.Eh _ _ _ _=>none
def GP(o:XOp)(S:St):Option (Nat×CQ×List Ent):=
 match o with
 |.call d f args=>match S.rds args with|some es=>some (d,f,es)|none=>none
 |.Eh d x ms args=>match S.one x,S.rds args with|some (.fn f caps),some es=>if FQ f=ms then some (d,f,es++caps.map (λl=>⟨.one,[l]⟩)) else none|_,_=>none
 |_=>none
def nG(S:St)(e:Ent):Option Nat:=
 match e with
 |⟨.one,[.bp id _]⟩=>match get S.bx id with|some ls=>if (F6 (Df ls) ls).isSome=true then some (Df ls) else none|none=>none
 |e=>if (F6 (Df e.cs) e.cs).isSome=true then some (Df e.cs) else none
def pre(f:CQ)(es:List Ent)(S:St):Option (St×List V):=if Re [] (FQ f) es=true then none else Xz S (FQ f) es
def cV(f:CQ)(S0:St)(es:List Ent)(k:Nat):Option Nat:=
 match es[k]? with
 |some e=>if (FQ f)[k]?=some .p then none else nG S0 e|none=>none
def Qt(S:St)(d:Nat)(ls:List AS)(e:Ent:=⟨.one,[.bp d 0]⟩):Option St:=
 if d∈S.pin then none else
  let S2:=S.kill (λl=>Fb d l||Gb d l)
  some { S2 with tm:=put S2.tm d e,bx:=put S2.bx d ls}
def post(d:Nat)(f:CQ)(es:List Ent)(S0 S:St)(sh:Sh)(cs:List T)(outs:List (List T)):Option St:=
 match GW S0 S (FQ f) es outs with
 |some S'=>match sh with
  |.ptr k=>match cV f S0 es k with|some lab=>Qt S' d (cs.map (Ew lab))|none=>none
  |.vw k=>match cV f S0 es k with|some lab=>S'.Eo d ⟨.one,cs.map (Ew lab)⟩|none=>none
  |.T8 k n=>match cV f S0 es k with|some lab=>Qt S' d ((cs.take (cs.length-n)).map (Ew lab)) ⟨.tup [none,some n],.bp d 0::(cs.drop (cs.length-n)).map I0⟩|none=>none
  |sh=>S'.Eo d (Aai sh cs)
 |none=>none
def XOp.mE:XOp->Option Nat|.mv d _|.as d _|.pick d _ _ _|.alloc d _|.box d _|.build d _ _|.CF d _ _ _|.ld d _ _|.chk d _|.bin d _ _ _ _|.un d _ _|.cvI d _ _|.OK d _|.RA d _|.O0 d _ _|.T6 d _ _ _|.sub d _ _ _ _|.Xl d _ _ _|.fa d _ _|.fld d _ _ _|.ia d _ _ _|.ix d _ _|.ext d _ _|.call d _ _|.Eh d _ _ _|.len d _|.lens d _|.app d _ _ _ _|.UA d _ _ _|.cpy d _ _ _|.mm d _ _ _|.mmk d|.WT d _ _|.WU d _=>some d|.st _ _ _=>none|.VD _ _ _=>none|.bad d=>d|.drop _=>none|.SL _=>none
def OC(o:XOp)(S:St):Option St:=match o.mE with|some d=>S.Eo d ⟨.one,[.und]⟩|none=>some S
def wanted(S:St):Option (Nat×Bool)->Option Bool
 |none=>some true|some (s,want)=>match get S.tm s with|some ⟨.one,[.t (.bool b)]⟩=>some (b==want)|some ⟨.one,[.und]⟩=>some false|_=>none
def opK(Rn:Rel)(o:XOp)(S:St)(K:St->Prop):Prop:=
 (∃S',ev o S=some S'/\K S') \/
 (∃d f es S1 vs sh cs outs S2,GP o S=some (d,f,es)/\pre f es S=some (S1,vs)/\Rn f vs sh cs outs/\post d f es S S1 sh cs outs=some S2/\K S2)
def dF(Rn:Rel):List (Option (Nat×Bool)×XOp)->St->(St->Prop)->Prop
 | [],S,K=>K S|(g,o)::r,S,K=>∃b,wanted S g=some b /\
  ((b=true/\opK Rn o S (λS'=>dF Rn r S' K))\/(b=false/\∃S',OC o S=some S'/\dF Rn r S' K))
def XOp.wr:XOp->Option Opd|.app _ _ _ x _|.UA _ _ x _|.cpy _ _ x _|.VD x _ _=>some x|_=>none
def LY(l:AS):List Md->List Ent->Bool|md::ms,e::es=>(!md.writes||e.cs.all λl'=>!Td l' l)&&LY l ms es|_,_=>true
def St.Py(S:St):AS->Bool
 |.bp id _=>(get S.bx id).isSome|.ep _ _ _=>true|.vp _ cs=>!cs.isEmpty|.al r _=>match S.at r with|some (.ow x)=>!cQ x|_=>false
 |.vw (.own _ _) _ _=>true|.t .nil=>true|_=>false
def Wr(o:XOp)(S:St)(l:AS):Bool:=
 S.Py l&&match o with
  |.st _ x _=>match S.one x with|some (.bp id _)=>!(names l).contains id|some (.ep r _ _)=>decide (l.CA≠some r)|_=>false
  |o=>match GP o S with
   |some (_,f,es)=>LY l (FQ f) es|none=>match o.wr with
    |some y=>match S.one y with|some lt=>l.CA.isNone||decide (l.CA≠lt.CA)|none=>true
    |none=>true
def LN(o:XOp)(S:St):List Nat->Bool
 | []=>true|s::ss=>(match S.one (.tmp s) with|some l=>Wr o S l|none=>false)&&LN o S ss
def runK(Rn:Rel):T4->St->(St->Prop)->Prop
 |.nil,S,K=>K S|.op _ g sf o rest,S,K=>∃b,wanted S g=some b /\
  ((b=true/\LN o S sf=true/\opK Rn o S (λS'=>runK Rn rest S' K))\/(b=false/\∃S',OC o S=some S'/\runK Rn rest S' K))
 |.dr ds rest,S,K=>runK Rn rest (S.JT ds) K|.nl ns rest,S,K=>runK Rn rest (S.TR ns) K|.both a b,S,K=>runK Rn a S K/\runK Rn b S K
inductive Ex where
 |n|x(id:Nat)|r
def AKZ(body:St->(Ex->St->Prop)->Prop):Nat->St->(Ex->St->Prop)->Prop
 |0,_,_=>False|n+1,S,Q=>body S (λe S'=>match e with|.n=>AKZ body n S' Q|e=>Q e S')
def St.see(S:St)(d p c e:Nat):St:=match S.one (.tmp p),S.at (.tmp d 0) with
 |some (.bp b 0),some (.ow (.sl e' xs))=>match S.at (.cell b c),at2 xs (xs.length-1) c with|some (.t .top),some (.sl e2 ys)=>if e'=e then S.Bk (.cell b c) (.vw (.own (.tmp d 0) none) e2 ys) else S|_,_=>S
 |_,_=>S
def wp(Rn:Rel):PY->St->(Ex->St->Prop)->Prop
 |.skip,S,Q=>Q .n S|.region ops FZ,S,Q=>dF Rn ops S (λS'=>∃ks,Q .n (S'.clean ks))|.W9 r FZ,S,Q=>runK Rn r S (λS'=>∃ks,Q .n (S'.clean ks))|.seq a b,S,Q=>wp Rn a S (λe S'=>match e with|.n=>wp Rn b S' Q|e=>Q e S')
 |.cond c kt ke t e,S,Q=>∃b,S.sc (.tmp c)=some (.bool b)/\∃ks,if b=true then wp Rn t (S.clean ks) Q else wp Rn e (S.clean ks) Q|.block id b,S,Q=>wp Rn b S (λe S'=>match e with|.x i=>if i=id then Q .n S' else Q (.x i) S'|e=>Q e S')
 |.loop b,S,Q=>∃n,AKZ (wp Rn b) n S Q|.exit id,S,Q=>Q (.x id) S|.ret,S,Q=>Q .r S|.scope b,S,Q=>wp Rn b S Q|.or a b,S,Q=>wp Rn a S Q\/wp Rn b S Q|.dead,_,_=>False|.VM a b _ d p c e,S,Q=>dF Rn a S (λS=>(∃id,S.one (.tmp p)=some (.bp id 0)/\(get S.bx id).isSome=true)/\dF Rn b S (λS'=>∃ks,Q .n ((S'.see d p c e).clean ks)))
def Q8(i:Nat):List V->Option (List AS)| []=>some []|.v .one [x]::vs=>(Q8 i vs).map (Ew i x::·)|.p cs::vs=>(Q8 i vs).map (.vp (.old i) cs::·)|_::_=>none
def initK:Nat->List Md->List V->St->Option St
 |_,[],[],S=>some S|i,.v::ms,.v sh cs::vs,S=>initK (i+1) ms vs { S with tm:=put S.tm i ⟨sh,cs.map (Ew i)⟩}
 |i,.v::ms,.f xf caps::vs,S=>match Q8 i caps with
  |some ls=>initK (i+1) ms vs { S with tm:=put S.tm i ⟨.one,[.fn xf ls]⟩}
  |none=>none
 |i,.p::ms,.p cs::vs,S=>initK (i+1) ms vs { S with tm:=put S.tm i ⟨.one,[.vp (.old i) cs]⟩}
 |i,.b::ms,.b cs::vs,S=>initK (i+1) ms vs { S with tm:=put S.tm i ⟨.one,[.bp i 0]⟩,bx:=put S.bx i (cs.map (Ew i)),pin:=i::S.pin}
 |i,.o::ms,.o sh cs::vs,S=>initK (i+1) ms vs { S with tm:=put S.tm i ⟨sh,cs.map I0⟩}
 |i,.m::ms,.m sh cs::vs,S=>if Hz sh cs.length=true then initK (i+1) ms vs { S with tm:=put S.tm i ⟨sh,cs.map I0⟩,pin:=i::S.pin} else none
 |_,_,_,_=>none
def Mo:List IF->St->Option (List (Option Nat)×List AS)
 | [],_=>some ([],[])|.tmp t::rs,S=>match S.rd (.tmp t),Mo rs S with
  |some e,some (ns,ls)=>if Hz e.sh e.cs.length=true then some ((match e.sh with|.one=>none|_=>some e.cs.length)::ns,e.cs++ls) else none
  |_,_=>none
 |.cell t n::rs,S=>match S.one (.tmp t) with
  |some (.bp id o)=>match S.load (Dx n) (.bp id o),Mo rs S with|some ls',some (ns,ls)=>some (n::ns,ls'++ls)|_,_=>none
  |_=>none
 |.bx _::_,_=>none|.vw _ _::_,_=>none|.un _ _::_,_=>none
def zg:List (Option Nat)->Sh| [none]=>.one| [some _]=>.agg|ns=>.tup ns
def P9:List AS->Bool
 | []=>true|l::ls=>(match l with|.t x=>!T1 x|.vw (.old _) _ _=>true|_=>false)&&P9 ls
def dN(rs:List IF)(S:St):Option (St×Sh×List T):=
 match rs with
 | [.bx t]=>match S.one (.tmp t) with
  |some (.bp id 0)=>match get S.bx id with
   |some ls=>if id∈S.pin then none else match F6 (Df ls) ls with|some cs=>some (S,.ptr (Df ls),cs)|none=>none
   |none=>none
  |_=>none
 | [.vw t k]=>match S.one (.tmp t) with
  |some (.vw (.old k') e xs)=>if k'=k then some (S,.vw k,[.sl e xs]) else none|some (.t .nil)=>some (S,.vw k,[.nil])|some (.al r sub)=>match S.at r with|some (.ow x)=>some (S.out r,.vw k,[qD sub x])|_=>none
  |_=>none
 | [.bx t,r]=>match S.one (.tmp t) with
  |some (.bp id 0)=>match get S.bx id,Mo [r] S with
   |some ls,some ([some n],ls')=>if id∈S.pin then none else match F6 (Df ls) ls,D5 S ls' with|some cs,some (S',cs')=>some (S',.T8 (Df ls) n,cs++cs')|_,_=>none
   |_,_=>none
  |_=>none
 |.un t n::r::rs=>match S.one (.tmp t) with
  |some (.bp id o)=>match S.load n (.bp id o) with
   |some ls'=>if P9 ls'=true then match Mo (r::rs) S with
    |some (ns,ls)=>match D5 S ls with|some (S',cs)=>some (S',.tup (some n::ns),List.replicate n .un++cs)|none=>none
    |none=>none
    else none
   |none=>none
  |_=>none
 |rs=>match Mo rs S with
  |some (ns,ls)=>match D5 S ls with|some (S',cs)=>some (S',zg ns,cs)|none=>none
  |none=>none
def owT:AS->Option T|.ow x=>some x|.t x=>if T1 x=true then none else some x|_=>none
def fh:List AS->Option (List T)
 | []=>some []|l::ls=>match owT l,fh ls with|some x,some xs=>some (x::xs)|_,_=>none
def F8:Nat->List Md->St->Option (List (List T))
 |_,[],_=>some []|i,.b::ms,S=>match get S.bx i,F8 (i+1) ms S with|some ls,some os=>if i∈S.pin then (F6 i ls).map (·::os) else none|_,_=>none
 |i,.m::ms,S=>match get S.tm i,F8 (i+1) ms S with|some e,some os=>if i∈S.pin/\Hz e.sh e.cs.length=true then (fh e.cs).map (·::os) else none|_,_=>none
 |i,_::ms,S=>F8 (i+1) ms S
def fin(ms:List Md)(rs:List IF)(S:St)(sh:Sh)(cs:List T)(outs:List (List T)):Prop:=
 ∃S',dN rs S=some (S',sh,cs)/\F8 0 ms S'=some outs
def Hj:List Md->List V->List (List T)->Bool| [],[],[]=>true|.b::ms,.b cs::vs,o::os=>o.length==cs.length&&Hj ms vs os|.b::_,_,_=>false|.m::ms,_::vs,_::os=>Hj ms vs os|.v::ms,_::vs,os=>Hj ms vs os|.p::ms,_::vs,os=>Hj ms vs os|.o::ms,_::vs,os=>Hj ms vs os|_,_,_=>false
def WY(id:Nat)(vs:List V)(sh:Sh)(cs:List T)(outs:List (List T)):Prop:=
 id≠1/\if id % 2=0 then
  ∃x xs y ys i,vs=[.o .one [x],.v .one [.int .i64 i],.v .one [y]]/\content x=some xs/\eOf (id / 2) x=true/\content y=some ys/\eOf (id / 2) y=true/\Ho xs=true/\Ho ys=true/\0<=i/\i.toNat<=xs.length/\ys≠[]/\xs.length+ys.length<=lim /\
   sh=.one/\cs=[.sl (id / 2) (xs.take i.toNat++ys++xs.drop i.toNat)]/\outs=[]
 else
  ∃xs i j,vs=[.o .one [.sl (id / 2) xs],.v .one [.int .i64 i],.v .one [.int .i64 j]]/\Ho xs=true/\0<=i/\i<j/\j<=xs.length /\
   sh=.one/\cs=[.sl (id / 2) (xs.take i.toNat++xs.drop j.toNat)]/\outs=[]
def aH(Rn:Rel):CQ->List V->Sh->List T->List (List T)->Prop
 |.mk ms rs body,vs,sh,cs,outs=>∃S0,initK 0 ms vs ⟨[],[],[]⟩=some S0 /\
  wp Rn body S0 (λe S=>match e with|.x _=>False|_=>fin ms rs S sh cs outs)/\Hj ms vs outs=true
 |.OW id _,vs,sh,cs,outs=>WY id vs sh cs outs
def K8:Rel:=λf vs sh cs outs=>∀Rn:Rel,(∀f vs sh cs outs,aH Rn f vs sh cs outs->Rn f vs sh cs outs)->Rn f vs sh cs outs
end Lv
namespace Lv
open Go
variable{arr:Array Value}{ks:List (Int×Int)}{xs:List (List T)}{blk e i j o:Nat}{x:T}{d:Type}{E:TypeId}{w w':World}
abbrev Blk:=Nat->Prop
def Sc:T->Value->Prop|.top,_=>True|.un,v=>v.oneCell'=true|.int k n,v=>v=.int k n|.bool b,v=>v=.bool b|.str s,v=>v=.string ⟨s.toArray⟩|.nil,v=>v=.slice none 0 0|.np,v=>v=.pointer none|.sl _ _,_=>False|.mp _,_=>False
structure Still(w w':World):Prop where
 size:w.heap.size<=w'.heap.size
 os:w'.os=w.os
 output:w'.output=w.output
 frozen:∀a,a.block<w.heap.size->w'.frozen? a=w.frozen? a
theorem Still.refl:Still w w:=⟨Aj _,rfl,rfl,λ_ _=>rfl⟩
theorem Still.trans{j}(h:Still w w')(c:Still w' j):Still w j:=
 ⟨Nat.le_trans h.size c.size,c.os.trans h.os,c.output.trans h.output,λa e=>(c.frozen a (BZ e h.size)).trans (h.frozen a e)⟩
theorem Still.drawn n :Still w { w with drawn:=n}:=⟨Aj _,rfl,rfl,λ_ _=>rfl⟩
theorem Still.alloc{o}:Still w { w with heap:=w.heap.push o}:=by refine⟨by simp,rfl,rfl,λa h=>?_⟩;simp[World.frozen?,HW,Oe h]
theorem Still.old(j:w.heap.size<=w'.heap.size)(c:w'.os=w.os)(e:w'.output=w.output)(q:∀b,b<w.heap.size->w'.heap[b]?=w.heap[b]?):Still w w':=by refine⟨j,c,e,λa h=>?_⟩;unfold World.frozen?;rw[q _ h]
theorem Still.setRow{b}{row}:Still w (w.setRow b row):=by refine⟨by simp[World.setRow],rfl,rfl,λa _=>?_⟩;grind[World.frozen?,World.setRow]
def F4(w:World)(blk:Nat)(arr:Array Value)(E:TypeId)(e:Nat):Prop:=∃fr:Nat×Nat,w.heap[blk]?=some (.cells arr E fr)/\(fr.2=0\/arr.size<=fr.1/\e=1)
theorem F4.of(h:w.heap[blk]?=some (.cells arr E (0,0))):F4 w blk arr E e:=⟨_,h,.inl rfl⟩
theorem F4.cell(h:F4 w blk arr E e) o :w.cell? ⟨blk,o,none⟩=arr[o]?:=by have ⟨fr,h,_⟩:=h;simp[World.cell?,h]
theorem F4.lt(h:F4 w blk arr E e):blk<w.heap.size:=by have ⟨fr,h,_⟩:=h;exact(BJ.1 h).1
theorem F4.same(h:F4 w blk arr E e)(j:w'.heap[blk]?=w.heap[blk]?):F4 w' blk arr E e:=by have ⟨fr,h,c⟩:=h;exact⟨fr,j.trans h,c⟩
theorem F4.set{new}(h:F4 w blk arr E e)(j:new.size=arr.size):F4 (w.setRow blk new) blk new E e:=by have ⟨fr,h,c⟩:=h;refine⟨fr,?_,by rw[j];exact c⟩;simp[World.setRow,Gn,h]
theorem F4.AZu(h:F4 w blk arr E e)(j:o<arr.size):w.frozen? ⟨blk,o,none⟩=false:=by have ⟨fr,h,c⟩:=h;grind[World.frozen?,Bool.and_eq_false_iff,decide_eq_false_iff_not]
theorem ye(xs:Array d) i  f g(h:∀x,xs[i]?=some x->f x=g x):xs.modify i f=xs.modify i g:=by grind
theorem AEH{v}(h:F4 w blk arr E e):w.setCell ⟨blk,o,none⟩ v=w.setRow blk (arr.setIfInBounds o v):=by have ⟨fr,h,_⟩:=h;grind[World.setCell,World.setRow,ye]
theorem setRow_setRow{x y}:(w.setRow blk x).setRow blk y=w.setRow blk y:=by unfold World.setRow;congr 1;grind
theorem aP{blk e}{E}:∀(vs:List Value) (o:Nat) (arr:Array Value) (w:World),F4 w blk arr E e->o+vs.length<=arr.size ->
 w.setCells blk o vs=w.setRow blk (arr.toList.take o++vs++arr.toList.drop (o+vs.length)).toArray
 | [],o,arr,w,h,_=>by have ⟨fr,h,_⟩:=h;simp[World.setCells,List.append_nil,AT,DV,List.take_append_drop,G9];exact(setRow_self w blk arr E fr h).symm
 |v::r,o,arr,w,h,q=>by
  simp[AK]at q;have c:o<arr.size:=by omega
  rw[World.setCells,AEH h,aP r (o+1) (arr.setIfInBounds o v) _ (h.set (by simp)) (by simp;omega),setRow_setRow];congr 2;simp[Hq,AK];rw[List.set_eq_take_append_cons_drop,AY (by simpa using c)];have j:(arr.toList.take o).length=o:=by simp;omega
  rw[List.take_append,List.drop_append,j];simp[show o+1-o=1 from by omega,Cs,List.take_zero];rw[List.take_of_length_le (by omega),List.drop_eq_nil_of_le (by omega)];simp only[Az,show o+1+r.length-o=r.length+1 from by omega,List.drop_succ_cons,DD,BF,A8];congr 4;omega
theorem GI{P}{g}{cur}{vs}(h:F4 w g cur E e)(y:o+vs.length<=cur.size)(c:∀v∈vs,v.oneCell'=true) :
 (storeCells ⟨g,o,none⟩ vs 0).run P w=.ok () (w.setRow g (cur.toList.take o++vs++cur.toList.drop (o+vs.length)).toArray):=by rw[run_storeCells_cells (P:=P) g o vs 0 w ?_ ?_ c];grind[aP];intro j q;rw[h.cell];simp;omega;intro j q;exact h.AZu (by omega)
def eK(e:MapEntry):Value×Value:=(e.key,e.val)
def fE(p:Int×Int):Value×Value:=(.int .i64 p.1,.int .i64 p.2)
def g9(w:World)(blk:Nat)(ks:List (Int×Int)):Prop:=∃es clock,w.heap[blk]?=some (.map es clock)/\es.toList.map eK=ks.map fE
theorem g9.lt(h:g9 w blk ks):blk<w.heap.size:=by have ⟨_,_,h,_⟩:=h;exact(BJ.1 h).1
theorem g9.same(h:g9 w blk ks)(q:w'.heap[blk]?=w.heap[blk]?):g9 w' blk ks:=by have ⟨es,c,e,j⟩:=h;exact⟨es,c,q.trans e,j⟩
inductive View(w:World)(B:Blk):T->Value->Prop
 |sc {x:T} {v:Value}:Sc x v->View w B x v|sl {e:Nat} {xs:List (List T)} {a:Addr} {len cap:Nat} (c:Nat->Nat->Value):len=xs.length->len<=cap->(∀row∈xs,row.length=e) ->
  (xs≠[]->a.spot=none/\B a.block) ->
  (∀i j x,at2 xs i j=some x->w.cell? ⟨a.block,a.off+i*e+j,none⟩=some (c i j)) ->
  (∀i j x,at2 xs i j=some x->View w B x (c i j))->View w B (.sl e xs) (.slice (some a) len cap)
 |nl {e:Nat}:View w B (.sl e []) (.slice none 0 0)|mp {ks:List (Int×Int)} {blk:Nat}:g9 w blk ks->B blk->View w B (.mp ks) (.map (some blk))
inductive Own(w:World):T->Value->Blk->Prop
 |sc {x:T} {v:Value} {S:Blk}:Sc x v->v.oneCell'=true->(∀b,¬S b)->Own w x v S|sl {e:Nat} {xs:List (List T)} {blk off len cap:Nat} {arr:Array Value} {E:TypeId} {S:Blk} (c:Nat->Nat->Value) (f:Nat->Nat->Blk) :
  len=xs.length->len<=cap->(∀row∈xs,row.length=e)->F4 w blk arr E e->off+cap*e<=arr.size ->
  (∀i j x,at2 xs i j=some x->arr[off+i*e+j]?=some (c i j)) ->
  (∀i j x,at2 xs i j=some x->Own w x (c i j) (f i j)) ->
  (∀i j x,at2 xs i j=some x->¬f i j blk) ->
  (∀i j x i' j' x',at2 xs i j=some x->at2 xs i' j'=some x'->(i=i'->j≠j')->∀b,f i j b->¬f i' j' b) ->
  (∀b,S b↔b=blk\/∃i j x,at2 xs i j=some x/\f i j b) ->
  Own w (.sl e xs) (.slice (some ⟨blk,off,none⟩) len cap) S
 |nl {e:Nat} {S:Blk}:(∀b,¬S b)->Own w (.sl e []) (.slice none 0 0) S|mp {ks:List (Int×Int)} {blk:Nat} {S:Blk}:g9 w blk ks->(∀b,S b↔b=blk)->Own w (.mp ks) (.map (some blk)) S
theorem View.mono{w w'}{B B'}{x}{v}(h:View w B x v)(E:∀b,B b->B' b)(J:∀b,B b->w'.heap[b]?=w.heap[b]?):View w' B' x v:=by
 induction h with
 |nl=>exact .nl|mp h q=>exact .mp (h.same (J _ q)) (E _ q)|sc h=>exact .sc h|@sl e xs a len cap c G q H y Q X O=>
  refine .sl c G q H (λh=>⟨(y h).1,E _ (y h).2⟩) ?_ O;intro i j x L;have I:xs≠[]:=by rintro rfl;simp[at2]at L
  grind[World.cell?]
theorem Own.frame{w w'}{S}{x}{v}(h:Own w x v S)(y:∀b,S b->w'.heap[b]?=w.heap[b]?):Own w' x v S:=by
 induction h with
 |nl e=>exact .nl e|mp h e=>exact .mp (h.same (y _ ((e _).2 rfl))) e|sc h q e=>exact .sc h q e|sl c f q B E G H I O J L j Q=>refine .sl c f q B E (G.same (y _ ((j _).2 (.inl rfl)))) H I ?_ J L j;grind
theorem Own.congr{w}{S S'}{x}{v}(h:Own w x v S)(e:∀b,S' b↔S b):Own w x v S':=by
 cases h with
 |nl E=>exact .nl λb B=>E b ((e b).1 B)|mp h y=>exact .mp h λb=>(e b).trans (y b)|sc h j E=>exact .sc h j λb B=>E b ((e b).1 B)|sl c f j y G H I J L O Q q=>exact .sl c f j y G H I J L O Q λb=>(e b).trans (q b)
theorem Own.lt{w}{S}{x}{v}(h:Own w x v S):∀b,S b->b<w.heap.size:=by
 induction h with
 |nl q=>exact λb e=>(q b e).elim|mp h q=>intro b e;rw[(q b).1 e];exact h.lt
 |sc h B q=>exact λb e=>(q b e).elim|sl c f B I J E L O Q X Y y H=>intro b e;rcases(y b).1 e with rfl|⟨i,j,x,G,e⟩;exact E.lt;exact H i j x G b e
theorem Own.view{w}{S}{x}{v}(h:Own w x v S):View w S x v:=by
 induction h with
 |sc h _ y=>exact .sc h|nl=>exact .nl|mp h y=>exact .mp h ((y _).2 rfl)|sl c f B E G H O I Q X Y e L=>refine .sl c B E G (λ_=>⟨rfl,(e _).2 (.inl rfl)⟩) ?_ ?_;intro i j x q;rw[H.cell];exact I i j x q;intro i j x q;exact(L i j x q).mono (λb J=>(e b).2 (.inr ⟨i,j,x,q,J⟩)) λ_ _=>rfl
theorem Sc.one{x}{v}(h:Sc x v)(e:T1 x=false):v.oneCell'=true:=by
 cases x with
 |top=>cases e
 |un=>exact h|sl=>exact h.elim|mp=>exact h.elim|_=>have c:v=_:=h;subst c;rfl
theorem Own.one{w}{S}{x}{v}(h:Own w x v S):v.oneCell'=true:=by
 cases h with
 |sc _ h _=>exact h|sl=>rfl|nl=>rfl|mp=>rfl
theorem ug(h:at2 xs i j=some x):i<xs.length:=by grind[at2,List.getElem?_eq_some_iff]
theorem Qb(h:at2 xs i j=some x)(c:∀row∈xs,row.length=e):j<e:=by grind[at2,List.mem_of_getElem?,List.getElem?_eq_some_iff]
theorem Qc{lo n:Nat}(h:at2 ((xs.drop lo).take n) i j=some x):i<n/\at2 xs (lo+i) j=some x:=by grind[at2]
theorem Own.sub{w:World}{S:Blk}{e:Nat}{xs:List (List T)}{blk off len cap:Nat}(h:Own w (.sl e xs) (.slice (some ⟨blk,off,none⟩) len cap) S){lo n off' cap':Nat}
 (hn:lo+n<=len) (Z:n<=cap') (I:cap'<=cap-lo) (ho:cap'≠0->off'=off+lo*e) (ho':off'<=off+lo*e) :
 ∃S':Blk,(∀b,S' b->S b)/\Own w (.sl e ((xs.drop lo).take n)) (.slice (some ⟨blk,off',none⟩) n cap') S':=by
 cases h with
 |sc h _ _=>exact h.elim|sl c f h1 h2 J L h5 h6 O Q X y=>refine⟨λb=>b=blk\/∃i j x,at2 ((xs.drop lo).take n) i j=some x/\f (lo+i) j b,?_,?_⟩;rintro b (rfl|⟨i,j,x,q,Y⟩);exact(y _).2 (.inl rfl);exact(y _).2 (.inr ⟨_,_,_,(Qc q).2,Y⟩);have E:(lo+cap')*e<=cap*e:=Ap _ (by omega);rw[Bc]at E;refine .sl (λi j=>c (lo+i) j) (λi j=>f (lo+i) j) (by simp;omega) Z ?_ L (by omega) ?_ ?_ ?_ ?_ (λb=>Iff.rfl);intro row B;exact J row (DG (Fg B));intro i j x q;have h:=Qc q;grind[Nat.add_mul];intro i j x q;exact O _ _ _ (Qc q).2;intro i j x q;exact Q _ _ _ (Qc q).2;intro i j x i' j' x' q H G;exact X _ _ _ _ _ _ (Qc q).2 (Qc H).2 (by intro h;exact G (by omega))
def tOf:Value->Option T|.int k n=>some (.int k n)|.bool b=>some (.bool b)|.string s=>some (.str s.data.toList)|.slice none 0 0=>some .nil|.pointer none=>some .np|_=>none
def AWi:T->T->Bool|.int k a,.int k' b=>decide (k=k')&&decide (a=b)|.bool a,.bool b=>a==b|.str a,.str b=>decide (a=b)|.nil,.nil=>true|.np,.np=>true|_,_=>false
def Sx(v:Value)(x:T):Bool:=match tOf v with|some y=>AWi y x|none=>false
def AKe(v:Value)(x:T):Bool:=match v,x with|.slice none 0 0,.sl _ []=>true|_,_=>false
def Vl:List Value->List T->Bool| [],[]=>true|v::vs,x::xs=>Sx v x&&Vl vs xs|_,_=>false
def CH:Operand->Opd->Bool|.tmp t,.tmp t'=>t==t'|.const v,.k x=>Sx v x||AKe v x|.func _,.fn _=>true|_,_=>false
def CK:Operand->Opd->List (Nat×CQ)|.func f,.fn g=>[(f,g)]|_,_=>[]
def RP:List Operand->List Opd->Bool| [],[]=>true|a::as,b::bs=>CH a b&&RP as bs|_,_=>false
def FO:List Operand->List Opd->List (Nat×CQ)|a::as,b::bs=>CK a b++FO as bs|_,_=>[]
def Wp:Option Operand->Option Opd->Bool|none,none=>true|some a,some b=>CH a b|_,_=>false
def VJ:Option Operand->Option Opd->List (Nat×CQ)|some a,some b=>CK a b|_,_=>[]
section
variable(P:Program)
def SE:TypeDesc->Bool|.struct _=>true|_=>false
def RO:TypeDesc->Bool|.struct _|.array _ _=>true|_=>false
def Jn(t:TypeId)(n:Option Nat):Bool:=
 match P.underlying t,P.info? t with
 |some d,some i=>(match n with|some k=>SE d&&i.size==k|none=>!RO d&&i.size==1)
 |_,_=>false
def dX(t:TypeId)(zs:List T):Bool:=
 match P.info? t with
 |some i=>(match i.zero with|some v=>Vl v.cells.toList zs|none=>false)&&i.size==zs.length
 |none=>false
def bB:List Value->List T->Bool| [],[]=>true|v::vs,x::xs=>(Sx v x||AKe v x)&&bB vs xs|_,_=>false
def AEB(t:TypeId)(zs:List T):Bool:=
 match P.info? t with
 |some i=>(match i.zero with|some v=>bB v.cells.toList zs|none=>false)&&i.size==zs.length
 |none=>false
def OO(P:Program)(el:TypeId):Bool:=match P.info? el with|some i=>(match i.zero with|some z=>z.cells.size==i.size&&decide (0<i.bytes)|none=>false)|none=>false
def GZ(t:TypeId)(e:Nat):Bool:=
 match P.underlying t with
 |some (.slice el)=>(match P.info? el with|some i=>i.size==e&&decide (i.bytes<=65536)&&decide (0<e)|none=>false)
 |_=>false
def isStr(t:TypeId):Bool:=match P.underlying t with|some .string=>true|_=>false
def isInt(t:TypeId)(k:IntKind):Bool:=match P.underlying t with|some (.int k')=>decide (k'=k)|_=>false
def Oz(t:TypeId):Bool:=match P.underlying t with|some (.map k e)=>isInt P k .i64&&(match P.info? e with|some i=>(match i.zero with|some (.int .i64 n)=>n==0|_=>false)|none=>false)|_=>false
def TL(t:TypeId):Bool:=match P.underlying t with|some (.slice el)=>isInt P el .u8&&GZ P t 1|_=>false
def ZW(t:TypeId)(f off:Nat):Bool:=
 match P.underlying t with
 |some (.struct fs)=>(match fs[f]? with|some x=>x.offset==off&&(match P.info? x.type with|some i=>decide (0<i.size)|none=>false)|none=>false)
 |_=>false
def R8(fs:Array Field):List (Nat×Operand)->List (Nat×Nat×Opd)->Bool
 | [],[]=>true|(i,x)::ps,(o,n,y)::qs=>(match fs[i]? with|some f=>f.offset==o&&(match P.info? f.type with|some t=>t.size==n|none=>false)|none=>false)&&CH x y&&R8 fs ps qs
 |_,_=>false
def PJ:List (Nat×Operand)->List (Nat×Nat×Opd)->List (Nat×CQ)|(_,x)::ps,(_,_,y)::qs=>CK x y++PJ ps qs|_,_=>[]
def O1:List (Nat×Operand)->List (Nat×Opd)->Bool| [],[]=>true|(i,x)::ps,(o,y)::qs=>i==o&&CH x y&&O1 ps qs|_,_=>false
def SU:List (Nat×Operand)->List (Nat×Opd)->List (Nat×CQ)|(_,x)::ps,(_,y)::qs=>CK x y++SU ps qs|_,_=>[]
def Aab(t:TypeId)(k:Kd):Bool:=
 match P.underlying t,k with
 |some (.int _),.i=>true|some .bool,.b=>true|some .string,.s=>true|_,_=>false
def R9(sub:TypeId->List Kd->Bool):Nat->List Field->List Kd->Bool
 |_,[],[]=>true|o,f::fs,ks=>f.name != "_" && f.offset==o&&((match ks with|k::ks=>Aab P f.type k&&R9 sub (o+1) fs ks | []=>false) ||
  (match P.info? f.type with|some i=>sub f.type (ks.take i.size)&&R9 sub (o+i.size) fs (ks.drop i.size)|none=>false))
 |_,_,_=>false
def AC0:Nat->TypeId->List Kd->Bool
 |0,_,_=>false|n+1,t,ks=>match P.underlying t with|some (.struct fs)=>R9 P (AC0 n) 0 fs.toList ks&&!P.stoodInHeld t|_=>false
def AAw(c:Cls)(t:TypeId):Bool:=
 match c,P.underlying t with
 |.num,_=>true|.bool,some .bool=>true|.sl,some (.slice _)=>true|.agg ks,some (.struct _)=>AC0 P 4 t ks&&!P.eqGuardType P.depth t|_,_=>false
def yV(d n:Nat):Bool:=decide (d<n)
def P8(N:Nat)(dst:Option Nat)(op:Op)(x:XOp):Bool:=
 (match x.mE,dst with|some d,some d'=>d==d'&&yV d N|none,none=>true|_,_=>false) &&
 match op,x with
 |.move a,.mv _ b=>CH a b|.assign a,.as _ b=>CH a b|.assign a,.mv _ b=>CH a b|.pick c a b,.pick _ c' a' b'=>CH c c'&&CH a a'&&CH b b'|.alloc t,.alloc _ zs=>dX P t zs|.box _ a,.box _ b=>CH a b|.build t ps,.build _ zs qs=>dX P t zs&&(match P.underlying t with|some (.struct fs)=>fs.toList.all (λf=>(P.info? f.type).isSome)&&R8 P fs ps.toList qs|_=>false)
 |.buildSlice t n ps,.CF _ n' zs qs=>n==n'&&GZ P t zs.length&&(match P.underlying t with|some (.slice el)=>AEB P el zs|_=>false)&&O1 ps.toList qs
 |.load t a,.ld _ n b=>Jn P t n&&CH a b|.store t a v,.st n a' v'=>(match P.info? t with|some i=>i.size==n % 1048576|none=>false)&&CH a a'&&CH v v'
 |.nilCheck a,.chk _ b=>CH a b|.binOp op t a b _,.bin _ c op' a' b'=>decide (op=op')&&CH a a'&&CH b b'&&AAw P c t|.unOp op _ a,.un _ op' b=>decide (op=op')&&CH a b|.convert s t a,.cvI _ k b=>CH a b&&isInt P t k&&(match P.underlying s with|some (.int _)=>true|_=>false)
 |.convert s t a,.OK _ b=>CH a b&&isStr P s&&TL P t|.convert s t a,.RA _ b=>CH a b&&TL P s&&isStr P t|.makeFunc (.func _) first caps,.O0 _ _ caps'=>first.isEmpty&&RP caps.toList caps'
 |.makeSlice t n c,.T6 _ zs n' c'=>GZ P t zs.length&&(match P.underlying t with|some (.slice el)=>AEB P el zs|_=>false)&&CH n n'&&CH c c'
 |.slice t a lo hi mx,.sub _ e b lo' hi'=>CH a b&&Wp lo lo'&&Wp hi hi'&&mx.isNone&&GZ P t e|.slice t a lo hi mx,.Xl _ b lo' hi'=>CH a b&&Wp lo lo'&&Wp hi hi'&&mx.isNone&&isStr P t|.fieldAddr t a f,.fa _ off b=>ZW P t f off&&CH a b|.field t a f,.fld _ off n b=>ZW P t f off&&CH a b&&(match P.underlying t with|some (.struct fs)=>(match fs[f]? with|some x=>Jn P x.type n|none=>false)|_=>false)
 |.indexAddr t a i,.ia _ e b i'=>GZ P t e&&CH a b&&CH i i'|.index t a i,.ix _ b i'=>isStr P t&&CH a b&&CH i i'|.extract a i,.ext _ b i'=>CH a b&&i==i'|.call { callee:=.value (.func _),args,..},.call _ _ args'=>RP args.toList args'|.call { callee:=.value f,args,..},.Eh _ f' _ args'=>CH f f'&&RP args.toList args'|.call { callee:=.builtin .len,args,argTypes},.len _ b=>(match args.toList,argTypes.toList with
  | [a],[t]=>CH a b&&(match P.underlying t with|some (.slice _)=>true|_=>false)
  |_,_=>false)
 |.call { callee:=.builtin .len,args,argTypes},.lens _ b=>(match args.toList,argTypes.toList with
  | [a],[t]=>CH a b&&isStr P t|_,_=>false)
 |.call { callee:=.builtin .append,args,argTypes},.app _ e _ a' b'=>(match args.toList,argTypes.toList with
  | [a,b],[t,u]=>CH a a'&&CH b b'&&GZ P t e&&(match P.underlying t with|some (.slice el)=>OO P el|_=>false) &&
   (match P.underlying u with|some (.slice el)=>GZ P u e&&(match P.underlying t with|some (.slice el')=>el==el'|_=>false)|some .string=>e==1&&TL P t|_=>false)
  |_,_=>false)
 |.call { callee:=.builtin .append,args,argTypes},.UA _ zs a' b'=>(match args.toList,argTypes.toList with
  | [a,b],[t,u]=>CH a a'&&CH b b'&&GZ P t zs.length&&(match P.underlying t with|some (.slice el)=>AEB P el zs&&OO P el|_=>false)&&(match P.underlying u with|some (.int _)=>true|_=>false)
  |_,_=>false)
 |.call { callee:=.builtin .copy,args,argTypes},.cpy _ e a' b'=>(match args.toList,argTypes.toList with
  | [a,b],[t,u]=>CH a a'&&CH b b'&&GZ P t e&&GZ P u e|_,_=>false)
 |.makeMap t r,.mmk _=>r.isNone&&Oz P t|.lookup t m k ok,.WT _ m' k'=>!ok&&Oz P t&&CH m m'&&CH k k'|.mapUpdate t m k v,.VD m' k' v'=>Oz P t&&CH m m'&&CH k k'&&CH v v'|.call { callee:=.builtin .len,args,argTypes},.WU _ b=>(match args.toList,argTypes.toList with
  | [a],[t]=>CH a b&&Oz P t|_,_=>false)
 |.call { callee:=.builtin .max,args,..},.mm _ true a' b'=>(match args.toList with | [a,b]=>CH a a'&&CH b b'|_=>false)
 |.call { callee:=.builtin .min,args,..},.mm _ false a' b'=>(match args.toList with | [a,b]=>CH a a'&&CH b b'|_=>false)
 |_,.bad _=>true|_,_=>false
end
def Em(op:Op)(x:XOp):List (Nat×CQ):=
 match op,x with
 |.move a,.mv _ b|.assign a,.as _ b|.assign a,.mv _ b|.box _ a,.box _ b|.load _ a,.ld _ _ b|.nilCheck a,.chk _ b|.unOp _ _ a,.un _ _ b|.convert _ _ a,.cvI _ _ b|.convert _ _ a,.OK _ b|.convert _ _ a,.RA _ b|.fieldAddr _ a _,.fa _ _ b|.field _ a _,.fld _ _ _ b|.extract a _,.ext _ b _=>CK a b|.pick c a b,.pick _ c' a' b'=>CK c c'++CK a a'++CK b b'|.build _ ps,.build _ _ qs=>PJ ps.toList qs|.buildSlice _ _ ps,.CF _ _ _ qs=>SU ps.toList qs|.store _ a v,.st _ a' v'=>CK a a'++CK v v'|.binOp _ _ a b _,.bin _ _ _ a' b'=>CK a a'++CK b b'|.makeFunc (.func f) _ caps,.O0 _ g caps'=>(f,g)::FO caps.toList caps'|.makeSlice _ n c,.T6 _ _ n' c'=>CK n n'++CK c c'|.slice _ a lo hi _,.sub _ _ b lo' hi'|.slice _ a lo hi _,.Xl _ b lo' hi'=>CK a b++VJ lo lo'++VJ hi hi'|.indexAddr _ a i,.ia _ _ b i'|.index _ a i,.ix _ b i'=>CK a b++CK i i'|.call { callee:=.value (.func f),args,..},.call _ g args'=>(f,g)::FO args.toList args'|.call { callee:=.value f,args,..},.Eh _ f' _ args'=>CK f f'++FO args.toList args'|.lookup _ m k _,.WT _ m' k'=>CK m m'++CK k k'|.mapUpdate _ m k v,.VD m' k' v'=>CK m m'++CK k k'++CK v v'|.call { args,..},.WU _ b=>FO args.toList [b]|.call { args,..},.len _ b|.call { args,..},.lens _ b=>FO args.toList [b]|.call { args,..},.app _ _ _ a b|.call { args,..},.UA _ _ a b|.call { args,..},.cpy _ _ a b|.call { args,..},.mm _ _ a b=>FO args.toList [a,b]|_,_=>[]
def Ov(ops:Array Oper):Option (Nat×Bool)->Option (Nat×Bool)->Bool
 |none,none=>true|some (j,want),some (s,want')=>want==want'&&(match ops[j]? with|some o=>decide (o.dst=some s)|none=>false)
 |_,_=>false
def N9(P:Program)(N:Nat)(ops:Array Oper):List Oper->List (Option (Nat×Bool)×XOp)->Bool| [],[]=>true|os,(g,.drop _)::xs=>g.isNone&&N9 P N ops os xs|os,(g,.SL _)::xs=>g.isNone&&N9 P N ops os xs|o::os,(g,x)::xs=>Ov ops o.guard g&&P8 P N o.dst o.op x&&N9 P N ops os xs|_,_=>false
def NQ:List Oper->List (Option (Nat×Bool)×XOp)->List (Nat×CQ)|os,(_,.drop _)::xs=>NQ os xs|os,(_,.SL _)::xs=>NQ os xs|o::os,(_,x)::xs=>Em o.op x++NQ os xs|_,_=>[]
inductive AZ3 where
 |pure|ld|eff
def OU:XOp->AZ3|.ld _ _ _|.RA _ _=>.ld|.alloc _ _|.box _ _|.CF _ _ _ _|.T6 _ _ _ _|.OK _ _|.app _ _ _ _ _|.UA _ _ _ _|.cpy _ _ _ _|.st _ _ _|.mmk _|.WT _ _ _|.VD _ _ _|.WU _ _|.bad _|.call _ _ _|.Eh _ _ _ _|.drop _|.SL _=>.eff|_=>.pure
def U8:XOp->Option Nat|.ld _ _ (.tmp s)=>some s|.RA _ (.tmp s)=>some s|_=>none
def ACs(ops:Array Oper)(j:Nat):Nat:=match ops[j]? with|some o=>o.after.toList.foldl (λm e=>if Region.binds .any e=true then m |||2 ^ e.on else m) 0|none=>0
def AOM(ops:Array Oper):Nat->Nat->Nat
 |0,m=>m|k+1,m=>match m.testBit k with|true=>AOM ops k (m |||ACs ops k)|false=>AOM ops k m
def Tq(ops:Array Oper)(n j i:Nat):Bool:=(AOM ops n (ACs ops j)).testBit i
def Qo:T4->List Nat|.nil=>[]|.op i _ _ _ _=>[i]|.dr _ r=>Qo r|.nl _ r=>Qo r|.both a b=>Qo a++Qo b
def Jc:T4->Nat|.nil=>0|.op _ _ _ _ r=>Jc r+1|.dr _ r=>Jc r|.nl _ r=>Jc r|.both a b=>max (Jc a) (Jc b)
def JU(P:Program)(N:Nat)(ops:Array Oper):Bool->T4->Array Bool->List (Nat×Nat)->Bool
 |top,.nil,L,_=>top&&(Bl .any ops L).isEmpty|top,.dr _ r,L,Ls=>JU P N ops top r L Ls|top,.nl _ r,L,Ls=>JU P N ops top r L Ls|top,.both a b,L,Ls=>(!top||(!(Bl .any ops L).isEmpty&&(Bl .any ops L).all (λj=>(Qo a++Qo b).contains j)))&&JU P N ops false a L Ls&&JU P N ops false b L Ls|top,.op i g sf x r,L,Ls=>match ops[i]? with
  |none=>false|some o=>Ov ops o.guard g&&P8 P N o.dst o.op x&&Ls.all (λt=>!(o.dst==some t.2))&&(match OU x with
   |.pure=>top&&(Bl .any ops L).contains i&&Region.free .any ops L i&&JU P N ops true r (L.setIfInBounds i true) Ls|.ld=>top&&(Bl .any ops L).contains i&&Region.free .any ops L i&&(match U8 x with|some s=>!(o.dst==some s)&&JU P N ops true r (L.setIfInBounds i true) ((i,s)::Ls)|none=>false)
   |.eff=>(!top||((Bl .any ops L).contains i&&(Bl .any ops L).all (λj=>j==i)))&&Ls.all (λt=>sf.contains t.2||Tq ops ops.size i t.1)&&JU P N ops true r (L.setIfInBounds i true) Ls)
def bA(n m:Nat):Array Bool:=((List.range n).map λi=>m.testBit i).toArray
def Dj{d:Type}(n:Nat)(K:Nat->d):d:=match n with|0=>K 0|k+1=>K (k+1)
theorem Gi n(K:Nat->d):Dj n K=K n:=by cases n<;>rfl
def yj(P:Program)(N:Nat)(ops:Array Oper)(top:Bool)(i:Nat)(g:Option (Nat×Bool))(sf:List Nat)(x:XOp)(L:Array Bool)(Ls:List (Nat×Nat)):Bool:=match ops[i]? with
 |none=>false|some o=>Ov ops o.guard g&&P8 P N o.dst o.op x&&Ls.all (λt=>!(o.dst==some t.2))&&(match OU x with
  |.pure=>top&&(Bl .any ops L).contains i&&Region.free .any ops L i|.ld=>top&&(Bl .any ops L).contains i&&Region.free .any ops L i&&(match U8 x with|some s=>!(o.dst==some s)|none=>false)
  |.eff=>(!top||((Bl .any ops L).contains i&&(Bl .any ops L).all (λj=>j==i)))&&Ls.all (λt=>sf.contains t.2||Tq ops ops.size i t.1))
def OZ(P:Program)(N:Nat)(ops:Array Oper):Bool->T4->Nat->List (Nat×Nat)->Bool
 |top,.nil,m,_=>top&&(Bl .any ops (bA ops.size m)).isEmpty|top,.dr _ r,m,Ls=>OZ P N ops top r m Ls&&true|top,.nl _ r,m,Ls=>OZ P N ops top r m Ls&&true|top,.both a b,m,Ls=>OZ P N ops false a m Ls&&(OZ P N ops false b m Ls&&(!top||(!(Bl .any ops (bA ops.size m)).isEmpty&&(Bl .any ops (bA ops.size m)).all (λj=>(Qo a++Qo b).contains j))))|top,.op i g sf x r,m,Ls=>match U8 x with|some s=>Dj (m |||2 ^ i) λm'=>OZ P N ops true r m' ((i,s)::Ls)&&yj P N ops top i g sf x (bA ops.size m) Ls|none=>Dj (m |||2 ^ i) λm'=>OZ P N ops true r m' Ls&&yj P N ops top i g sf x (bA ops.size m) Ls
theorem AWC n :bA n 0=Array.replicate n false:=by apply Array.ext;simp[bA];intro i c e;simp[bA]
theorem AOS n m i :(bA n m).setIfInBounds i true=bA n (m |||2 ^ i):=by apply Array.ext;simp[bA];intro j c e;simp[bA,List.setIfInBounds_toArray,List.getElem_toArray,List.getElem_set,List.getElem_map,List.getElem_range,Nat.testBit_or,Nat.testBit_two_pow];grind
theorem ADS{x}{s}(h:U8 x=some s):OU x=.ld:=by unfold U8 at h;split at h<;>first|rfl|cases h
theorem NW{P}{N}{ops}:∀(r:T4) (top:Bool) (m:Nat) (Ls:List (Nat×Nat)),OZ P N ops top r m Ls=true->JU P N ops top r (bA ops.size m) Ls=true
 |.nil,top,m,Ls,h=>h|.dr _ r,top,m,Ls,h=>by simp[OZ,Ce]at h;simpa[JU] using NW r top m Ls h
 |.nl _ r,top,m,Ls,h=>by simp[OZ,Ce]at h;simpa[JU] using NW r top m Ls h
 |.both a b,top,m,Ls,h=>by simp only[OZ,AD]at h;have ⟨e,c,q⟩:=h;simp only[JU,AD];exact⟨⟨q,NW a false m Ls e⟩,NW b false m Ls c⟩
 |.op i g sf x r,top,m,Ls,h=>by unfold OZ at h;unfold JU;split at h;rename_i s j;rw[Gi,AD]at h;have ⟨e,c⟩:=h;have e:=NW r true _ _ e;rw[<-AOS]at e;unfold yj at c;have y:=ADS j;split at c;cases c;simp[y,j,AD]at c ⊢;exact⟨c.1,⟨c.2.1,⟨c.2.2,e⟩⟩⟩;next j=>rw[Gi,AD]at h;have ⟨e,c⟩:=h;have e:=NW r true _ _ e;grind[AOS,yj]
def OY(ops:Array Oper):T4->List (Nat×CQ)
 |.nil=>[]|.op i _ _ x r=>(match ops[i]? with|some o=>Em o.op x|none=>[])++OY ops r
 |.dr _ r=>OY ops r|.nl _ r=>OY ops r|.both a b=>OY ops a++OY ops b
def AHH(d p c e:Nat):List (Option (Nat×Bool)×XOp)->List (Option (Nat×Bool)×XOp)->Bool
 | [(none,.mv m (.tmp _)),(none,.ld l (some n) (.tmp p')),(none,.CF s 1 zs [(0,.tmp l')])],[(none,.app r e' _ (.tmp m') (.tmp s')),(none,.as d' (.tmp r'))]=>
  p'==p&&l'==l&&m'==m&&s'==s&&r'==r&&d'==d&&e'==e&&n==e&&zs.length==e&&decide (c<e)&&decide (p∉[m,l,s,r,d])
 |_,_=>false
def codeOk(P:Program)(N:Nat):Code->PY->Bool|.skip,.skip=>true|.region _ ops d,.region xs _=>!d&&N9 P N ops ops.toList xs|.region _ ops d,.W9 r _=>d&&P.follows .mixedOrders&&Region.noSelect ops&&decide (Jc r<=ops.size)&&OZ P N ops true r 0 []|.seq a b,.seq a' b'=>codeOk P N a a'&&codeOk P N b b'|.cond (.tmp c) t e,.cond c' _ _ t' e'=>c==c'&&codeOk P N t t'&&codeOk P N e e'|.block id b,.block id' b'=>id==id'&&codeOk P N b b'|.loop b,.loop b'=>codeOk P N b b'|.exit id,.exit id'=>id==id'|.ret,.ret=>true|.scope b,.scope b'=>codeOk P N b b'|.cond (.const (.bool true)) t _,.scope x=>codeOk P N t x|.cond (.const (.bool false)) _ e,.scope x=>codeOk P N e x|c,.or a b=>codeOk P N c a&&codeOk P N c b|_,.dead=>true|.region _ os dr,.VM a b _ d p c e=>!dr&&N9 P N os os.toList (a++b)&&AHH d p c e a b|_,_=>false
def E1:Code->PY->List (Nat×CQ)|.region _ ops _,.region xs _=>NQ ops.toList xs|.region _ ops _,.W9 r _=>OY ops r|.seq a b,.seq a' b'=>E1 a a'++E1 b b'|.cond _ t e,.cond _ _ _ t' e'=>E1 t t'++E1 e e'|.block _ b,.block _ b'=>E1 b b'|.loop b,.loop b'=>E1 b b'|.scope b,.scope b'=>E1 b b'|.cond (.const (.bool true)) t _,.scope x=>E1 t x|.cond (.const (.bool false)) _ e,.scope x=>E1 e x|c,.or a b=>E1 c a++E1 c b|.region _ ops _,.VM a b _ _ _ _ _=>NQ ops.toList (a++b)|_,_=>[]
def G8(P:Program):List ResultVar->List IF->Bool| [],[]=>true|.tmp t::rs,.tmp t'::xs=>t==t'&&G8 P rs xs|.cell t ty::rs,.cell t' n::xs=>t==t'&&Jn P ty n&&G8 P rs xs|.tmp t::rs,.bx t'::xs=>t==t'&&G8 P rs xs|.tmp t::rs,.vw t' _::xs=>t==t'&&G8 P rs xs|.cell t ty::rs,.un t' n::xs=>t==t'&&Jn P ty (some n)&&G8 P rs xs|_,_=>false
def bZ(P:Program)(fn:Func)(c:Code):CQ->Bool|.mk ms rs body=>decide (ms.length<=fn.ntmps)&&G8 P fn.results.toList rs&&codeOk P fn.ntmps c body&&fn.name != "runtime.NumGoroutine"|.OW _ _=>false
def AKH(c:Code):CQ->List (Nat×CQ)|.mk _ _ body=>E1 c body|.OW _ _=>[]
inductive Mt(A:Nat->Nat->List Md->Prop)(P:Program):Nat->CQ->Prop|OW {n id:Nat} {ms:List Md}:A n id ms->Mt A P n (.OW id ms)|mk {n:Nat} {f:CQ} {fn:Func} {c:Code}:P.funcs[n]?=some fn->fn.body=some c->bZ P fn c f=true->(∀p∈AKH c f,Mt A P p.1 p.2)->Mt A P n f
def IP:List (Option Nat)->List Value->List Value| [],_=>[]|none::ns,vs=>vs.headD undef::IP ns (vs.drop 1)|some n::ns,vs=>.agg (vs.take n).toArray::IP ns (vs.drop n)
def mkV:Sh->List Value->Value|.one,vs=>vs.headD undef|.agg,vs=>.agg vs.toArray|.tup ns,vs=>.tuple (IP ns vs).toArray|.ptr _,vs=>vs.headD undef|.vw _,vs=>vs.headD undef|.T8 _ _,vs=>.tuple #[vs.headD undef,.agg (vs.drop 1).toArray]
structure Fix where
 P:Program
 A:Nat->Nat->List Md->Prop
 R:Nat->Blk
 K:Blk
 RK:∀k b,R k b->K b
 w0:World
 pv:Nat->Value
 β0:Nat->Nat
 N:Nat
structure Gh where
 β:Nat->Nat
 tv:Nat->List Value
 bv:Nat->List Value
 fp:CN->Blk
def Gh.rv(g:Gh):CN->Option Value|.tmp s c=>(g.tv s)[c]?|.cell b c=>(g.bv b)[c]?
def W0(w:World)(B:Blk)(cs:List T)(v:Value):Prop:=
 ∃(a:Addr) (c:Nat->Value),v=.pointer (some a)/\a.spot=none/\∀j x,cs[j]?=some x->B a.block/\w.cell? ⟨a.block,a.off+j,none⟩=some (c j)/\View w B x (c j)
def ALO(w:World)(B:Blk)(cs:List T)(v:Value):Prop:=
 ∃(a:Addr) (c:Nat->Value) (f:Nat->Blk),v=.pointer (some a)/\a.spot=none /\
  ∀j x,cs[j]?=some x->B a.block/\w.cell? ⟨a.block,a.off+j,none⟩=some (c j)/\(∀b,f j b->B b)/\Own w x (c j) (f j)
def AV0(x:T)(sub:Option (Nat×Nat))(u v:Value):Prop:=
 match sub with
 |none=>v=u|some (lo,n)=>match x with
  |.sl e xs=>(∃blk off len cap off' cap',u=.slice (some ⟨blk,off,none⟩) len cap/\v=.slice (some ⟨blk,off',none⟩) n cap'/\lo+n<=xs.length/\cap'=cap-lo /\
   (cap'≠0->off'=off+lo*e)/\off'<=off+lo*e)\/(u=.slice none 0 0/\v=.slice none 0 0/\xs=[]/\lo=0/\n=0)
  |_=>v=u/\lo=0/\n=0
def GA(F:Fix)(g:Gh)(w:World):AS->Value->Prop|.t x,v=>Sc x v|.und,v=>v=undef|.vw (.old k) e xs,v=>View w (F.R k) (.sl e xs) v|.vp (.old k) cs,v=>W0 w (F.R k) cs v|.bp id off,v=>v=.pointer (some ⟨g.β id,off,none⟩)|_,_=>False
def CP(S:St)(r:CN):Prop:=∃x,S.at r=some (.ow x)
def AtC(S:St)(g:Gh)(w:World)(r:CN)(p:Option (Nat×Nat))(e:Nat)(xs:List (List T))(v:Value):Prop:=
 match p with
 |none=>True|some (i,j)=>∃e0 rows blk off len cap,S.at r=some (.ow (.sl e0 rows))/\g.rv r=some (.slice (some ⟨blk,off,none⟩) len cap)/\at2 rows i j=some (.sl e xs) /\
  g.fp r blk/\w.cell? ⟨blk,off+i*e0+j,none⟩=some v
def Bz(F:Fix)(S:St)(g:Gh)(w:World)(fp:Blk):AS->Value->Prop
 |.ow x,v=>Own w x v fp|.al r sub,v=>∃x u,S.at r=some (.ow x)/\g.rv r=some u/\AV0 x sub u v|.ep r i j,v=>∃e xs blk off len cap,S.at r=some (.ow (.sl e xs))/\g.rv r=some (.slice (some ⟨blk,off,none⟩) len cap)/\i<xs.length /\
  v=.pointer (some ⟨blk,off+i*e+j,none⟩)
 |.vw (.own r p) e xs,v=>CP S r/\(∃S',(∀b,S' b->g.fp r b)/\Own w (.sl e xs) v S')/\AtC S g w r p e xs v|.vp (.own r _) cs,v=>CP S r/\ALO w (g.fp r) cs v|.fn f caps,v=>∃n cv,v=.func (.func n) #[] cv/\Mt F.A F.P n f/\cv.size=caps.length/\∀(i:Nat) (l:AS) (c:Value),caps[i]?=some l->cv[i]?=some c->GA F g w l c|l,v=>GA F g w l v
structure Inv(F:Fix)(S:St)(g:Gh)(a:Act)(w:World):Prop where
 C6:∀r l,S.at r=some l->∃v,g.rv r=some v/\Bz F S g w (g.fp r) l v
 tms:∀s e,get S.tm s=some e->s<F.N/\a.tmps.getD s undef=mkV e.sh (g.tv s)/\(g.tv s).length=e.cs.length
 bxs:∀id ls,get S.bx id=some ls->(∃E,w.heap[g.β id]?=some (.cells (g.bv id).toArray E (0,0)))/\(g.bv id).length=ls.length
 dis:∀r r',CP S r->CP S r'->r≠r'->∀b,g.fp r b->¬g.fp r' b
 F3:∀r id,CP S r->(get S.bx id).isSome->¬g.fp r (g.β id)
 Hw:∀r,CP S r->∀b,g.fp r b->¬F.K b
 G1:∀id id',(get S.bx id).isSome->(get S.bx id').isSome->g.β id=g.β id'->id=id'
 bxR:∀id,(get S.bx id).isSome->¬F.K (g.β id)
 FZ:∀b,F.K b->w.heap[b]?=F.w0.heap[b]?
 rlt:∀b,F.K b->b<F.w0.heap.size
 still:Still F.w0 w
 defs:a.defers=[]
 tsz:a.tmps.size=F.N
 pin:∀p∈S.pin,a.tmps.getD p undef=F.pv p/\((get S.bx p).isSome->g.β p=F.β0 p)
theorem Inv.size{F}{S}{g}{a}(h:Inv F S g a w):F.w0.heap.size<=w.heap.size:=h.still.size
section tools
variable{F:Fix}{S S':St}{g g':Gh}{a:Act}{w w':World}
variable{B:Blk}{cs:List T}{v:Value}
theorem View.same{x}(h:View w B x v)(c:∀b,B b->w'.heap[b]?=w.heap[b]?):View w' B x v:=h.mono (λ_ h=>h) c
theorem KA{b o}(h:w'.heap[b]?=w.heap[b]?):w'.cell? ⟨b,o,none⟩=w.cell? ⟨b,o,none⟩:=by simp[World.cell?,h]
theorem W0.same(h:W0 w B cs v)(q:∀b,B b->w'.heap[b]?=w.heap[b]?):W0 w' B cs v:=by obtain⟨a,c,y,E,G⟩:=h;refine⟨a,c,y,E,λj x J=>?_⟩;obtain⟨e,H,I⟩:=G j x J;exact⟨e,by rw[KA (q _ e),H],I.same q⟩
theorem ALO.same{B'}(h:ALO w B cs v)(hB:∀b,B b->B' b)(E:∀b,B b->w'.heap[b]?=w.heap[b]?):ALO w' B' cs v:=by obtain⟨a,c,f,G,H,I⟩:=h;refine⟨a,c,f,G,H,λj x O=>?_⟩;obtain⟨q,J,y,L⟩:=I j x O;exact⟨hB _ q,by rw[KA (E _ q),J],λb e=>hB b (y b e),L.frame λb e=>E b (y b e)⟩
theorem GA.tr{l}(h:GA F g w l v)(c:∀id off,l=.bp id off->g'.β id=g.β id)(hR:∀b,F.K b->w'.heap[b]?=w.heap[b]?) :
 GA F g' w' l v:=by unfold GA at h ⊢;split at h<;>simp_all;exact h.same λb c=>hR b (F.RK _ b c);exact h.same λb c=>hR b (F.RK _ b c)
theorem Bz.tr{fp}{l}{v}(h:Bz F S g w fp l v)
(O:∀r,l.CA=some r->S'.at r=S.at r/\g'.rv r=g.rv r/\(∀b,g.fp r b->g'.fp r b)/\∀b,g.fp r b->w'.heap[b]?=w.heap[b]?)
(I:∀id∈names l,g'.β id=g.β id)(hF:∀b,fp b->w'.heap[b]?=w.heap[b]?)(hR:∀b,F.K b->w'.heap[b]?=w.heap[b]?):Bz F S' g' w' fp l v:=by
 match l,h with
 |.ow x,h=>exact Own.frame h hF|.al r sub,⟨x,u,y,E,G⟩=>obtain⟨B,H,_,_⟩:=O r rfl;exact⟨x,u,B.trans y,H.trans E,G⟩
 |.ep r i j,⟨e,xs,blk,off,len,cap,y,E,G,X⟩=>obtain⟨B,H,_,_⟩:=O r rfl;exact⟨e,xs,blk,off,len,cap,B.trans y,H.trans E,G,X⟩
 |.vw (.own r p) e xs,⟨⟨x,Q⟩,⟨S0,y,E⟩,G⟩=>
  obtain⟨B,H,J,L⟩:=O r rfl;refine⟨⟨x,B.trans Q⟩,⟨S0,λb I=>J b (y b I),E.frame λb I=>L b (y b I)⟩,?_⟩;cases p with
  |none=>trivial|some q=>obtain⟨i,j⟩:=q;obtain⟨e0,rows,blk,off,len,cap,k1,k2,k3,Z,k5⟩:=G;exact⟨e0,rows,blk,off,len,cap,B.trans k1,H.trans k2,k3,J _ Z,(KA (L _ Z)).trans k5⟩
 |.vp (.own r _) cs,⟨⟨x,Q⟩,y⟩=>obtain⟨B,H,J,L⟩:=O r rfl;exact⟨⟨x,B.trans Q⟩,y.same J L⟩
 |.fn f caps,⟨n,cv,y,E,G,X⟩=>refine⟨n,cv,y,E,G,λi l c Y hc=>(X i l c Y hc).tr ?_ hR⟩;rintro id off rfl;refine I id ?_;simp only[names,List.mem_filterMap];exact⟨_,A4 Y,rfl⟩
 |.t x,h=>exact GA.tr (g:=g) (g':=g') (l:=.t x) h (by simp) hR|.und,h=>exact GA.tr (g:=g) (g':=g') (l:=.und) h (by simp) hR|.vw (.old k) e xs,h=>exact GA.tr (g:=g) (g':=g') (l:=.vw (.old k) e xs) h (by simp) hR|.vp (.old k) cs,h=>exact GA.tr (g:=g) (g':=g') (l:=.vp (.old k) cs) h (by simp) hR|.bp id off,h=>exact GA.tr (g:=g) (g':=g') (l:=.bp id off) h (by rintro _ _ ⟨⟩;exact I id (by simp[names])) hR
theorem Bz.top{fp}:Bz F S g w fp (.t .top) v:=trivial
theorem Bz.alive{fp}{l}{v}(h:Bz F S g w fp l v){r}(c:l.CA=some r):CP S r:=by
 match l,h with
 |.al r' sub,⟨x,u,y,B,E⟩=>cases c;exact⟨x,y⟩
 |.ep r' i j,⟨e,xs,blk,off,len,cap,y,B,E,G⟩=>cases c;exact⟨_,y⟩
 |.vw (.own r' _) e xs,⟨q,_⟩=>cases c;exact q
 |.vp (.own r' _) cs,⟨q,_⟩=>cases c;exact q
end tools
section lists
variable{d:Type}
theorem GQ l(s k:Nat)(a:d):get (put l s a) k=if k=s then some a else get l k:=by
 induction l with
 |nil=>grind[put,get]
 |cons p r c=>grind[put,get]
theorem Fx q  l  s :get (M6 q l) s=(get l s).map λe=>⟨e.sh,FD q e.cs⟩:=by
 induction l with
 |nil=>rfl|cons p r c=>have ⟨k,e⟩:=p;simp[M6,get,c];split<;>rfl
theorem Dp q  l  s :get (M5 q l) s=(get l s).map (FD q):=by
 induction l with
 |nil=>rfl|cons p r c=>have ⟨k,e⟩:=p;simp[M5,get,c];split<;>rfl
theorem IH(ks:List Nat)(l:List (Nat×d))(s:Nat):get (Hi ks l) s=if s∈ks then get l s else none:=by
 induction l with
 |nil=>simp[Hi,get]|cons p r c=>grind[Hi,get]
theorem NI(ks:List Nat)(l:List (Nat×d))(s:Nat):get (LH ks l) s=if s∈ks then none else get l s:=by
 induction l with
 |nil=>simp[LH,get]|cons p r c=>grind[LH,get]
theorem HU q  ls(c:Nat):(FD q ls)[c]?=(ls[c]?).map λl=>if q l then .t .top else l:=by
 induction ls generalizing c with
 |nil=>simp[FD]|cons l ls e=>cases c<;>simp[FD,e]
theorem Fy q  ls :(FD q ls).length=ls.length:=by
 induction ls with
 |nil=>rfl|cons l ls c=>simp[FD,c]
end lists
theorem AEA{l:AS}{b c:Nat}(h:l.CA=some (.cell b c)):l.Nn=some b:=by
 match l,h with
 |.al _ _,h=>cases h;rfl
 |.ep _ _ _,h=>cases h;rfl
 |.vw (.own _ _) _ _,h=>cases h;rfl
 |.vp (.own _ _) _,h=>cases h;rfl
section at_
variable{S:St}
theorem IZ q  r :(S.kill q).at r=(S.at r).map λl=>if q l then .t .top else l:=by
 cases r with
 |tmp s c=>grind[St.at,St.kill,Fx,get,HU]
 |cell b c=>grind[St.at,St.kill,Dp,get,HU]
theorem FR{r}{I}(h:S.at r=some I) l  r' :(S.Bk r l).at r'=if r'=r then some l else S.at r':=by
 cases r with
 |tmp s c=>
  simp[St.at,St.Bk]at h ⊢;cases j:get S.tm s with
  |none=>simp[j]at h|some e=>
   simp[j]at h ⊢;cases r' with
   |tmp E q=>simp[GQ];by_cases y:E=s;subst y;simp[if_true,j];have B:=(AO.1 h).1;rw[Eb];by_cases H:c=q<;>simp_all[eq_comm];simp[y]
   |cell b q=>simp
 |cell b c=>
  simp[St.at,St.Bk]at h ⊢;cases j:get S.bx b with
  |none=>simp[j]at h|some e=>
   simp[j]at h ⊢;cases r' with
   |tmp E q=>simp|cell G q=>simp[GQ];by_cases y:G=b;subst y;simp[if_true,j];have B:=(AO.1 h).1;rw[Eb];by_cases H:c=q<;>simp_all[eq_comm];simp[y]
theorem NZ{r:CN}{l:AS}{s:Nat}{j:Ent}(h:get (S.Bk r l).tm s=some j):∃e,get S.tm s=some e/\j.sh=e.sh/\j.cs.length=e.cs.length:=by
 cases r with
 |tmp q c=>grind[St.Bk,GQ]
 |cell b c=>grind[St.Bk]
theorem J9{r:CN}{l:AS}{s:Nat}{ls':List AS}(h:get (S.Bk r l).bx s=some ls'):∃ls,get S.bx s=some ls/\ls'.length=ls.length:=by
 cases r with
 |tmp e c=>grind[St.Bk]
 |cell b c=>grind[St.Bk,GQ]
theorem H9{r}{l}:(S.Bk r l).pin=S.pin:=by cases r<;>simp[St.Bk]<;>split<;>rfl
theorem D8{r}{l}{s}:(get (S.Bk r l).bx s).isSome=(get S.bx s).isSome:=by
 cases r with
 |tmp e c=>simp[St.Bk];split<;>rfl|cell b c=>grind[St.Bk,GQ]
end at_
section moves
variable{F:Fix}{S S':St}{g g':Gh}{a a':Act}{w w':World}
theorem Inv.weaken(h:Inv F S g a w)(B:∀s Q,get S'.tm s=some Q->∃e,get S.tm s=some e/\Q.sh=e.sh/\Q.cs.length=e.cs.length)
 (X:∀id ls',get S'.bx id=some ls'->∃ls,get S.bx id=some ls/\ls'.length=ls.length)
 (h3:∀r l',S'.at r=some l'->l'=.t .top/\(S.at r).isSome\/(S.at r=some l'/\∀O x,l'.CA=some O->S.at O=some (.ow x)->S'.at O=some (.ow x)))
 (h4:S'.pin=S.pin):Inv F S' g a w:=by
 have j:∀r,CP S' r->CP S r:=by rintro r ⟨x,Y⟩;rcases h3 r _ Y with ⟨h,_⟩|⟨h,_⟩;cases h;exact⟨x,h⟩
 have c:∀id,(get S'.bx id).isSome->(get S.bx id).isSome:=by intro id q;have ⟨ls',hls⟩:=Bq.1 q;have ⟨ls,h,_⟩:=X _ _ hls;simp[h]
 refine { C6:=?_,tms:=?_,bxs:=?_,dis:=?_,F3:=?_,Hw:=?_,G1:=?_,bxR:=?_,FZ:=h.FZ,rlt:=h.rlt,still:=h.still,defs:=h.defs,tsz:=h.tsz,pin:=?_};intro r l' H;rcases h3 r l' H with ⟨rfl,L⟩|⟨L,y⟩;have ⟨l,H⟩:=Bq.1 L;have ⟨v,hv,_⟩:=h.C6 _ _ H;exact⟨v,hv,Bz.top⟩;have ⟨v,hv,I⟩:=h.C6 _ _ L;refine⟨v,hv,I.tr ?_ (λ_ _=>rfl) (λ_ _=>rfl) λ_ _=>rfl⟩;intro O J;have ⟨x,Y⟩:=I.alive J;exact⟨(y O x J Y).trans Y.symm,rfl,λ_ h=>h,λ_ _=>rfl⟩;intro s Q he;have ⟨e,Z,he2,he3⟩:=B _ _ he;have ⟨E,G,h7⟩:=h.tms _ _ Z;exact⟨E,he2▸G,h7.trans he3.symm⟩;intro id ls' H;have ⟨ls,hl1,hl2⟩:=X _ _ H;have ⟨E,G⟩:=h.bxs _ _ hl1;exact⟨E,G.trans hl2.symm⟩;exact λr r' y hr' hne=>h.dis r r' (j _ y) (j _ hr') hne;exact λr id y q=>h.F3 r id (j _ y) (c _ q);exact λr y=>h.Hw r (j _ y);exact λid id' B X=>h.G1 id id' (c _ B) (c _ X);exact λid B=>h.bxR id (c _ B);intro p hp;have ⟨E,G⟩:=h.pin p (h4▸hp);exact⟨E,λL=>G (c _ L)⟩
theorem Inv.kill(h:Inv F S g a w)(q:AS->Bool)(c:∀x,q (.ow x)=false):Inv F (S.kill q) g a w:=by refine h.weaken ?_ ?_ ?_ rfl;grind[St.kill,Fx,Option.map_eq_some_iff,Fy];grind[St.kill,Dp,Option.map_eq_some_iff,Fy];grind[IZ,Option.map_eq_some_iff]
theorem Inv.out(h:Inv F S g a w){r:CN}{x:T}(e:S.at r=some (.ow x)):Inv F (S.out r) g a w:=by
 have c:∀r',(S.out r).at r'=(if r'=r then some (.t .top) else S.at r').map λl=>if NP r l then .t .top else l:=by intro r';rw[St.out,IZ,FR e]
 refine h.weaken ?_ ?_ ?_ ?_;grind[St.out,St.kill,Fx,Option.map_eq_some_iff,NZ,Fy];grind[St.out,St.kill,Dp,Option.map_eq_some_iff,J9,Fy];grind[Option.map_eq_some_iff,NP,AS.CA];rw[St.out];exact H9
theorem JY{r r':CN}{x:T}(q:S.at r=some (.ow x)):CP (S.out r) r'->r'≠r/\CP S r':=by rintro⟨y,j⟩;rw[St.out,IZ,FR q,AM]at j;have ⟨l,e,c⟩:=j;split at c;cases c;subst c;split at e;cases e;next h=>exact⟨h,y,e⟩
theorem Inv.clean(h:Inv F S g a w) ks :Inv F (S.clean ks) g a w:=by
 have J:∀r l',(S.clean ks).at r=some l'->∃l,S.at r=some l/\l'=(if Ji ks l then .t .top else l)/\(match r with|.tmp s _=>s∈ks|.cell b _=>b∈ks):=by grind[St.at,St.clean,Fx,IH,get,HU,Option.map_eq_some_iff,Dp]
 have y:∀r x,S.at r=some (.ow x)->(match r with|.tmp s _=>s∈ks|.cell b _=>b∈ks)->(S.clean ks).at r=some (.ow x):=by
  intro r x q I;cases r with
  |tmp s c=>
   simp[St.at,St.clean,Fx,IH]at q I ⊢;simp[I,if_true];cases B:get S.tm s with
   |none=>simp[B]at q|some e=>simp[B]at q;simp[HU,q,Ji,NO,AS.CA,AS.Nn]
  |cell b c=>
   simp[St.at,St.clean,Dp,IH]at q I ⊢;simp[I,if_true];cases B:get S.bx b with
   |none=>simp[B]at q|some e=>simp[B]at q;simp[HU,q,Ji,NO,AS.CA,AS.Nn]
 refine h.weaken ?_ ?_ ?_ rfl;intro s Q j;simp only[St.clean,Fx,IH,AM]at j;obtain⟨e,j,rfl⟩:=j;split at j;exact⟨e,j,rfl,Fy _ _⟩;cases j;intro id ls' G;simp only[St.clean,Dp,IH,AM]at G;obtain⟨e,j,rfl⟩:=G;split at j;exact⟨e,j,Fy _ _⟩;cases j;intro r l' G;obtain⟨l,L,rfl,X⟩:=J r l' G;split;exact .inl ⟨rfl,by simp[L]⟩;next H=>refine .inr ⟨L,λO x E q=>y O x q ?_⟩;cases O with
 |tmp s c=>simp[Ji,E,DJ,not_or,decide_eq_true_eq,Decidable.not_not]at H;exact H.1
 |cell b c=>
  have Y:l.Nn=some b:=AEA E;have:NO ks l=false:=by simp[Ji,DJ,not_or]at H;simpa using H.2
  cases l<;>simp_all[NO,AS.CA]
end moves
section
variable{F:Fix}{S S':St}{g g':Gh}{a a':Act}{w w':World}
variable{r:CN}{cs:List AS}{vs:List Value}{d:Nat}{nf:Nat->Blk}
def Ts(F:Fix)(S:St)(g:Gh)(cs:List AS)(nf:Nat->Blk):Prop:=
 ∀c x,cs[c]?=some (.ow x)->(∀b,nf c b->¬F.K b)/\(∀r,CP S r->∀b,nf c b->¬g.fp r b)/\(∀id,(get S.bx id).isSome->¬nf c (g.β id)) /\
  ∀c' x',cs[c']?=some (.ow x')->c≠c'->∀b,nf c b->¬nf c' b
def Cells(F:Fix)(S:St)(g:Gh)(w:World)(cs:List AS)(vs:List Value)(nf:Nat->Blk):Prop:=
 vs.length=cs.length/\(∀c l,cs[c]?=some l->∃v,vs[c]?=some v/\Bz F S g w (nf c) l v)/\Ts F S g cs nf
theorem AE1{d}{e} r :({ S with tm:=put S.tm d e}:St).at r=match r with|.tmp s c=>if s=d then e.cs[c]? else S.at (.tmp s c)|.cell b c=>S.at (.cell b c):=by grind[St.at,GQ]
def Gh.NX(g:Gh)(d:Nat)(vs:List Value)(nf:Nat->Blk):Gh:=
 { g with tv:=λs=>if s=d then vs else g.tv s,fp:=λr=>match r with|.tmp s c=>if s=d then nf c else g.fp (.tmp s c)|.cell b c=>g.fp (.cell b c)}
theorem ADi{l}(h:Fb d l=false)(e:l.CA=some r):∀c,r≠.tmp d c:=by rintro c rfl;simp[Fb,e]at h
theorem Inv.put(h:Inv F S g a w){e:Ent}{vs:List Value}{nf:Nat->Blk}(hd:d<F.N)(hp:d∉S.pin)
 (hfree:∀r l,S.at r=some l->(∀c,r≠.tmp d c)->Fb d l=false) (hfe:∀l∈e.cs,Fb d l=false) (hc:Cells F S g w e.cs vs nf) :
 Inv F { S with tm:=put S.tm d e} (g.NX d vs nf) (a.put (some d) (mkV e.sh vs)) w:=by
 have ⟨hlen,hl,G⟩:=hc;have hrv:∀r,(∀c,r≠.tmp d c)->(g.NX d vs nf).rv r=g.rv r:=by
  intro r j;cases r with
  |tmp s c=>
   have:s≠d:=by rintro rfl;exact j c rfl
   simp[Gh.rv,Gh.NX,this]
  |cell b c=>rfl
 have H:∀r,(∀c,r≠.tmp d c)->(g.NX d vs nf).fp r=g.fp r:=by
  intro r j;cases r with
  |tmp s c=>
   have:s≠d:=by rintro rfl;exact j c rfl
   simp[Gh.NX,this]
  |cell b c=>rfl
 have Z:∀r,(∀c,r≠.tmp d c)->({ S with tm:=Lv.put S.tm d e}:St).at r=S.at r:=by
  intro r j;rw[AE1];cases r with
  |tmp s c=>
   have:s≠d:=by rintro rfl;exact j c rfl
   simp[this]
  |cell b c=>rfl
 have tr:∀{fp:Blk} {l:AS} {v:Value},Fb d l=false->Bz F S g w fp l v->Bz F { S with tm:=Lv.put S.tm d e} (g.NX d vs nf) w fp l v:=by intro fp l v hn Q;refine Q.tr ?_ (λ_ _=>rfl) (λ_ _=>rfl) λ_ _=>rfl;intro r j;have E:=ADi hn j;exact⟨Z r E,hrv r E,λb q=>(H r E).symm▸q,λ_ _=>rfl⟩
 have tmpd:∀r:CN,(∃c,r=CN.tmp d c)\/∀c,r≠CN.tmp d c:=by intro r;by_cases L:∃c,r=.tmp d c;exact .inl L;exact .inr λc hc=>L ⟨c,hc⟩
 have y:∀c,CP { S with tm:=Lv.put S.tm d e} (.tmp d c)->∃x,e.cs[c]?=some (.ow x):=by rintro c ⟨x,L⟩;rw[AE1]at L;exact⟨x,by simpa using L⟩
 have O:∀r,(∀c,r≠.tmp d c)->CP { S with tm:=Lv.put S.tm d e} r->CP S r:=by rintro r j ⟨x,L⟩;exact⟨x,(Z r j)▸L⟩
 have fpd:∀c,(g.NX d vs nf).fp (.tmp d c)=nf c:=λc=>by simp[Gh.NX]
 refine { C6:=?_,tms:=?_,bxs:=h.bxs,dis:=?_,F3:=?_,Hw:=?_,G1:=h.G1,bxR:=h.bxR,FZ:=h.FZ,rlt:=h.rlt,still:=h.still,defs:=h.defs,tsz:=?_,pin:=?_};intro r l I;rcases tmpd r with ⟨c,rfl⟩|j;rw[AE1]at I;simp only[if_true]at I;have ⟨v,hv,Q⟩:=hl c l I;refine⟨v,by simpa[Gh.rv,Gh.NX] using hv,?_⟩;rw[fpd];exact tr (hfe l (A4 I)) Q;rw[Z r j]at I;have ⟨v,hv,Q⟩:=h.C6 r l I;refine⟨v,(hrv r j).trans hv,?_⟩;rw[H r j];exact tr (hfree r l I j) Q;intro s e' he;simp only[GQ]at he;by_cases hs:s=d;subst hs;simp only[if_true,AE]at he;subst he;refine⟨hd,?_,by simpa[Gh.NX] using hlen⟩;simp[Act.put,Array.getD,Gh.NX,h.tsz,hd];simp only[Aa hs]at he;have ⟨J,X,h3⟩:=h.tms s e' he;refine⟨J,?_,by simpa[Gh.NX,hs] using h3⟩;have:({ a with tmps:=a.tmps.setIfInBounds d (mkV e.sh vs)}:Act).tmps.getD s undef=a.tmps.getD s undef:=by simp[DI,Ne.symm hs]
 simpa[Act.put,Gh.NX,hs] using this.trans X;intro r r' j Y E b q B;rcases tmpd r with ⟨c,rfl⟩|J;have ⟨x,L⟩:=y c j;rw[fpd]at q;rcases tmpd r' with ⟨c',rfl⟩|X;have ⟨x',hx'⟩:=y c' Y;rw[fpd]at B;exact(G c x L).2.2.2 c' x' hx' (by rintro rfl;exact E rfl) b q B;rw[H r' X]at B;exact(G c x L).2.1 r' (O r' X Y) b q B;rw[H r J]at q;rcases tmpd r' with ⟨c',rfl⟩|X;have ⟨x',hx'⟩:=y c' Y;rw[fpd]at B;exact(G c' x' hx').2.1 r (O r J j) b B q;rw[H r' X]at B;exact h.dis r r' (O r J j) (O r' X Y) E b q B;intro r id j hid q;rcases tmpd r with ⟨c,rfl⟩|J;have ⟨x,L⟩:=y c j;rw[fpd]at q;exact(G c x L).2.2.1 id hid q;rw[H r J]at q;exact h.F3 r id (O r J j) hid q;intro r j b q;rcases tmpd r with ⟨c,rfl⟩|J;have ⟨x,L⟩:=y c j;rw[fpd]at q;exact(G c x L).1 b q;rw[H r J]at q;exact h.Hw r (O r J j) b q;simp[Act.put,h.tsz];intro p hpp;have ⟨J,X⟩:=h.pin p hpp;have E:d≠p:=by rintro rfl;exact hp hpp
 refine⟨?_,X⟩;simp only[Act.put,DI,Array.getElem?_setIfInBounds,Aa E];rw[DI]at J;exact J
theorem Cells.kill(h:Cells F S g w cs vs nf)(q:AS->Bool)(X:∀x,q (.ow x)=false) :
 Cells F (S.kill q) g w (FD q cs) vs nf:=by
 have ⟨I,J,L⟩:=h;have O:∀r,CP (S.kill q) r->CP S r:=by rintro r ⟨x,j⟩;rw[IZ,AM]at j;have ⟨l,y,e⟩:=j;split at e;cases e;exact⟨x,e▸y⟩
 have B:∀r x,S.at r=some (.ow x)->(S.kill q).at r=some (.ow x):=by intro r x j;rw[IZ,j];simp[X]
 have Q:∀id,(get (S.kill q).bx id).isSome->(get S.bx id).isSome:=by intro id;simp[St.kill,Dp]
 have H:∀(c:Nat) (x:T),(FD q cs)[c]?=some (AS.ow x)->cs[c]?=some (AS.ow x):=by intro c x j;rw[HU,AM]at j;have ⟨l,y,e⟩:=j;split at e;cases e;exact e▸y
 refine⟨I.trans (Fy _ _).symm,?_,?_⟩;intro c l y;rw[HU,AM]at y;obtain⟨l0,G,rfl⟩:=y;have ⟨v,Z,E⟩:=J c l0 G;refine⟨v,Z,?_⟩;split;exact Bz.top;refine E.tr ?_ (λ_ _=>rfl) (λ_ _=>rfl) λ_ _=>rfl;intro r Y;have ⟨x,j⟩:=E.alive Y;exact⟨(B r x j).trans j.symm,rfl,λ_ h=>h,λ_ _=>rfl⟩;intro c x j;have ⟨h4,h5,h6,h7⟩:=L c x (H c x j);grind
theorem Inv.Eo(h:Inv F S g a w){e}(j:S.Eo d e=some S')(O:d<F.N)(I:Cells F S g w e.cs vs nf) :
 ∃g',Inv F S' g' (a.put (some d) (mkV e.sh vs)) w:=by
 unfold St.Eo at j;split at j;cases j;rename_i Q;split at j;rename_i Z;cases j;have E:∀{l:AS} {fp:Blk} {v:Value},Bz F S g w fp l v->Fb d l=false:=by
  intro l fp v q;cases H:l.CA with
  |none=>simp[Fb,H]|some r=>
   have ⟨x,hx⟩:=q.alive H;cases r with
   |tmp s c=>
    have:s≠d:=by rintro rfl;simp[St.at,Z]at hx
    simp[Fb,H,this]
   |cell b c=>simp[Fb,H]
 refine⟨_,h.put O Q ?_ ?_ I⟩;intro r l B _;have ⟨v,_,q⟩:=h.C6 r l B;exact E q;intro l J;have ⟨c,y⟩:=B0 J;have ⟨v,_,q⟩:=I.2.1 c l y;exact E q;cases j;have X:∀x,Fb d (.ow x)=false:=λx=>rfl;have Y:=I.kill (Fb d) X;have G:∀l,Fb d (if Fb d l then .t .top else l)=false:=by intro l;split;rfl;simp_all
 refine⟨_,(h.kill (Fb d) X).put (e:=⟨e.sh,FD (Fb d) e.cs⟩) O Q ?_ ?_ Y⟩;intro r l B _;rw[IZ,AM]at B;obtain⟨L,_,rfl⟩:=B;exact G L;intro l J;have ⟨c,y⟩:=B0 J;rw[HU,AM]at y;obtain⟨L,_,rfl⟩:=y;exact G L
theorem Bz.any{fp fp'}{l}{v}(c:∀x,l≠.ow x)(h:Bz F S g w fp l v):Bz F S g w fp' l v:=by
 match l,h with
 |.ow x,h=>exact(c x rfl).elim|.al _ _,h=>exact h|.ep _ _ _,h=>exact h|.vw (.own _ _) _ _,h=>exact h|.vw (.old _) _ _,h=>exact h|.vp (.own _ _) _,h=>exact h|.vp (.old _) _,h=>exact h|.fn _ _,h=>exact h|.t _,h=>exact h|.und,h=>exact h|.bp _ _,h=>exact h
theorem Cells.free(e:vs.length=cs.length)(h:∀(c:Nat) (l:AS),cs[c]?=some l->∃v,vs[c]?=some v/\Bz F S g w (λ_=>False) l v)
 (j:∀x,AS.ow x∉cs):Cells F S g w cs vs λ_ _=>False:=
 ⟨e,h,λ_ x q=>(j x (A4 q)).elim⟩
theorem Inv.grow(h:Inv F S g a w)(O:Still w w')(G:∀b,b<w.heap.size->w'.heap[b]?=w.heap[b]?):Inv F S g a w':=by
 have hR:∀b,F.K b->w'.heap[b]?=w.heap[b]?:=λb e=>G b (BZ (h.rlt b e) h.size);have j:∀r,CP S r->∀b,g.fp r b->w'.heap[b]?=w.heap[b]?:=by rintro r ⟨x,H⟩ b e;have ⟨v,_,c⟩:=h.C6 r _ H;exact G b (Own.lt c b e)
 refine { C6:=?_,tms:=h.tms,bxs:=?_,dis:=h.dis,F3:=h.F3,Hw:=h.Hw,G1:=h.G1,bxR:=h.bxR,FZ:=?_,rlt:=h.rlt,still:=h.still.trans O,defs:=h.defs,tsz:=h.tsz,pin:=h.pin};intro r l y;have ⟨v,J,c⟩:=h.C6 r l y;by_cases q:∃x,l=.ow x;obtain⟨x,rfl⟩:=q;exact⟨v,J,Own.frame c (j r ⟨x,y⟩)⟩;have I:∀x,l≠.ow x:=λx H=>q ⟨x,H⟩;exact⟨v,J,Bz.any I ((Bz.any (fp':=λ_=>False) I c).tr (S':=S) (g':=g) (w':=w') (λQ B=>⟨rfl,rfl,λ_ h=>h,j Q (c.alive B)⟩) (λ_ _=>rfl) (λ_ h=>h.elim) hR)⟩;intro id ls y;have ⟨⟨E,hE⟩,L⟩:=h.bxs id ls y;exact⟨⟨E,(G _ (BJ.1 hE).1).trans hE⟩,L⟩;intro b e;exact(hR b e).trans (h.FZ b e)
theorem Inv.drawn(h:Inv F S g a w) n :Inv F S g a { w with drawn:=n}:=h.grow (Still.drawn n) λ_ _=>rfl
theorem TV{x:T}{u v:Value}{fp:Blk}{sub}(h:Own w x u fp)(j:AV0 x sub u v):∃S0:Blk,(∀b,S0 b->fp b)/\Own w (qD sub x) v S0:=by
 cases sub with
 |none=>simp[AV0]at j;subst j;exact⟨fp,λ_ h=>h,by cases x<;>exact h⟩
 |some p=>
  have ⟨lo,n⟩:=p;cases x with
  |sl e xs=>
   simp only[AV0]at j;obtain⟨blk,off,len,cap,off',cap',rfl,rfl,q,y,E,G⟩|⟨rfl,rfl,rfl,rfl,rfl⟩:=j;case inr=>exact⟨fp,λ_ h=>h,by simpa[qD,K6] using h⟩
   have B:len=xs.length/\len<=cap:=by
    cases h with
    |sc h _ _=>exact h.elim|sl c f q y=>exact⟨q,y⟩
   exact h.sub (lo:=lo) (n:=n) (by omega) (by omega) (by omega) E G
  |top=>obtain⟨rfl,_⟩:=j;exact⟨fp,λ_ h=>h,h⟩
  |int k n=>obtain⟨rfl,_⟩:=j;exact⟨fp,λ_ h=>h,h⟩
  |bool b=>obtain⟨rfl,_⟩:=j;exact⟨fp,λ_ h=>h,h⟩
  |str s=>obtain⟨rfl,_⟩:=j;exact⟨fp,λ_ h=>h,h⟩
  |nil=>obtain⟨rfl,_⟩:=j;exact⟨fp,λ_ h=>h,h⟩
  |np=>obtain⟨rfl,_⟩:=j;exact⟨fp,λ_ h=>h,h⟩
  |un=>obtain⟨rfl,_⟩:=j;exact⟨fp,λ_ h=>h,h⟩
  |mp ks=>obtain⟨rfl,_⟩:=j;exact⟨fp,λ_ h=>h,h⟩
theorem AHE{x:T}(e:S.at r=some (.ow x)){r':CN}{y:T}(c:r'≠r)(h:S.at r'=some (.ow y)):(S.out r).at r'=some (.ow y):=by rw[St.out,IZ,FR e,Aa c,h];simp[NP,AS.CA]
theorem XU{id}:(get (S.out r).bx id).isSome->(get S.bx id).isSome:=by grind[St.out,St.kill,Dp,Option.isSome_map,D8]
theorem zL:(S.out r).pin=S.pin:=by rw[St.out];exact H9
theorem Bz.out{fp:Blk}{l:AS}{v:Value}(h:Bz F S g w fp l v){x:T}(j:S.at r=some (.ow x))(e:l.CA≠some r):Bz F (S.out r) g w fp l v:=by refine h.tr ?_ (λ_ _=>rfl) (λ_ _=>rfl) λ_ _=>rfl;intro B c;have ⟨y,q⟩:=h.alive c;grind[AHE]
structure Tt(F:Fix)(S S':St)(g:Gh)(a:Act)(w:World):Prop where
 inv:Inv F S' g a w
 same:∀r x,S'.at r=some (.ow x)->S.at r=some (.ow x)
 bx:∀id,(get S'.bx id).isSome->(get S.bx id).isSome
 pin:S'.pin=S.pin
theorem Tt.al(h:Tt F S S' g a w):∀r,CP S' r->CP S r:=λr ⟨x,c⟩=>⟨x,h.same r x c⟩
theorem ni{r':CN}{x y:T}(c:S.at r=some (.ow x))(e:(S.out r).at r'=some (.ow y)):S.at r'=some (.ow y):=by grind[St.out,IZ,FR,Option.map_eq_some_iff]
theorem AVa{ls ls':List AS}{vs:List Value}(h:Inv F S g a w)(hn:∀x,AS.ow x∉ls)(E:vs.length=ls.length)
 (hok:∀(c:Nat) (l:AS),ls[c]?=some l->∃v,vs[c]?=some v/\Bz F S g w (λ_=>False) l v) (htk:QQ ls=true) (J:LO S ls=some (S',ls')) :
 Tt F S S' g a w/\(∀fp l v,Bz F S g w fp l v->(∀r sub,AS.al r sub∈ls->l.CA≠some r)->Bz F S' g w fp l v) /\
 ∃nf:Nat->Blk,Cells F S' g w ls' vs nf/\∀c x,ls'[c]?=some (.ow x)->∃r,CP S r/\∀b,nf c b->g.fp r b:=by
 induction ls generalizing S S' ls' vs with
 |nil=>simp[LO,AE,BC]at J;obtain⟨rfl,rfl⟩:=J;refine⟨⟨h,λ_ _ h=>h,λ_ h=>h,rfl⟩,λ_ _ _ h _=>h,λ_ _=>False,⟨E,?_,?_⟩,?_⟩;intro c l hl;simp at hl;intro c x q;simp at q;intro c x q;simp at q
 |cons l ls ih=>
  obtain⟨v,vs,rfl⟩:∃v vs',vs=v::vs':=by cases vs with|nil=>simp at E|cons v vs=>exact⟨v,vs,rfl⟩
  simp[AK,IM]at E;simp[QQ,AD,B2,BE,JO,decide_eq_false_iff_not]at htk;have ⟨htk1,htk2⟩:=htk;have hn':∀x,AS.ow x∉ls:=λx q=>hn x (Am _ q);have hl0:Bz F S g w (λ_=>False) l v:=by have ⟨v',I,Q⟩:=hok 0 l rfl;simp[AN,AE]at I;exact I▸Q
  by_cases hal:∃r sub,l=.al r sub;obtain⟨r,sub,rfl⟩:=hal;have ⟨x,u,q,hu,hsub⟩:=hl0;simp[LO,q]at J;have hother:∀l'∈ls,l'.CA≠some r:=by intro l' e hr;rcases htk1 l' e with O|O;simp[yX]at O;exact O hr.symm
  split at J;rename_i S1 ls1 heq;simp[AE,BC]at J;obtain⟨rfl,rfl⟩:=J;have ⟨htaken,Z,nf,hcells,Y⟩:=ih (S:=S.out r) (S':=S1) (ls':=ls1) (vs:=vs) (h.out q) hn' E (by intro c l' e;have ⟨v',I,Q⟩:=hok (c+1) l' (by simpa using e);exact⟨v',by simpa using I,Q.out q (hother l' (A4 e))⟩) htk2 heq;have hown:Own w x u (g.fp r):=by have ⟨u',hu',Q⟩:=h.C6 r _ q;rw[hu]at hu';cases hu';exact Q
  have ⟨S0,hS0,hO⟩:=TV hown hsub;refine⟨⟨htaken.inv,λr' y H=>ni q (htaken.same r' y H),λid hid=>XU (htaken.bx id hid),htaken.pin.trans zL⟩,?_,λc=>match c with|0=>S0|c+1=>nf c,⟨?_,?_,?_⟩,?_⟩;intro fp l' v' Q j;exact Z fp l' v' (Q.out q (j r sub (by simp))) λr2 sub2 hm=>j r2 sub2 (Am _ hm);simpa using hcells.1;intro c l' e;cases c with|zero=>simp[AN,AE]at e;subst e;exact⟨v,rfl,hO⟩|succ c=>exact hcells.2.1 c l' (by simpa using e)
  have hself:(∀b,S0 b->¬F.K b)/\(∀r',CP S1 r'->∀b,S0 b->¬g.fp r' b)/\(∀id,(get S1.bx id).isSome->¬S0 (g.β id)):=by refine⟨λb G=>h.Hw r ⟨x,q⟩ b (hS0 b G),λr' j b G=>?_,λid hid G=>?_⟩;have:=JY q (htaken.al r' j);exact h.dis r r' ⟨x,q⟩ this.2 (Ne.symm this.1) b (hS0 b G);exact h.F3 r id ⟨x,q⟩ (XU (htaken.bx id hid)) (hS0 _ G)
  have hcross:∀c X,ls1[c]?=some (.ow X)->∀b,S0 b->¬nf c b:=by intro c X B b G hb';have ⟨r',j,hsubs⟩:=Y c X B;have:=JY q j;exact h.dis r r' ⟨x,q⟩ this.2 (Ne.symm this.1) b (hS0 b G) (hsubs b hb')
  intro c y H;cases c with
  |zero=>
   refine⟨hself.1,hself.2.1,hself.2.2,?_⟩;intro L X B hne b G;cases L with
   |zero=>exact(hne rfl).elim|succ L=>exact hcross L X (by simpa using B) b G
  |succ c=>
   have ⟨O,h2,h3,h4⟩:=hcells.2.2 c y (by simpa using H);refine⟨O,h2,h3,?_⟩;intro L X B hne b G;cases L with
   |zero=>exact λhb'=>hcross c y (by simpa using H) b hb' G|succ L=>exact h4 L X (by simpa using B) (by omega) b G
  intro c y H;cases c with
  |zero=>exact⟨r,⟨x,q⟩,hS0⟩|succ c=>have ⟨r',j,hsubs⟩:=Y c y (by simpa using H);exact⟨r',(JY q j).2,hsubs⟩
  cases J;have htg:LO S (l::ls)=match LO S ls with|some (S',ls')=>some (S',l::ls')|none=>none:=by cases l<;>first|rfl|exact(hal ⟨_,_,rfl⟩).elim
  rw[htg]at J;split at J;rename_i S1 ls1 heq;simp[AE,BC]at J;obtain⟨rfl,rfl⟩:=J;have ⟨htaken,Z,nf,hcells,Y⟩:=ih (S:=S) (S':=S1) (ls':=ls1) (vs:=vs) h hn' E (by intro c l' e;have ⟨v',I,Q⟩:=hok (c+1) l' (by simpa using e);exact⟨v',by simpa using I,Q⟩) htk2 heq;have hno:∀x,l≠.ow x:=by rintro x rfl;exact hn x (by simp)
  refine⟨htaken,?_,λc=>match c with|0=>λ_=>False|c+1=>nf c,⟨by simpa using hcells.1,?_,?_⟩,?_⟩;intro fp l' v' Q j;exact Z fp l' v' Q λr2 sub2 hm=>j r2 sub2 (Am _ hm);intro c l' e;cases c with
  |zero=>
   simp[AN,AE]at e;subst e;refine⟨v,rfl,Z _ _ _ hl0 ?_⟩;intro r sub hm hr;rcases htk1 _ hm with O|O;simp[yX]at O;exact O hr
  |succ c=>exact hcells.2.1 c l' (by simpa using e)
  intro c y H;cases c with
  |zero=>simp[AN,AE]at H;exact(hno y H).elim|succ c=>
   have ⟨O,h2,h3,h4⟩:=hcells.2.2 c y (by simpa using H);refine⟨O,h2,h3,?_⟩;intro L X B hne b G;cases L with
   |zero=>simp[AN,AE]at B;exact(hno X B).elim|succ L=>exact h4 L X (by simpa using B) (by omega) b G
  intro c y H;cases c with|zero=>simp[AN,AE]at H;exact(hno y H).elim|succ c=>exact Y c y (by simpa using H)
  cases J
def Gh.F9(g:Gh)(d blk:Nat)(vs:List Value)(nf:Nat->Blk):Gh:=
 { g with β:=λi=>if i=d then blk else g.β i,bv:=λi=>if i=d then vs else g.bv i,fp:=λr=>match r with|.cell b c=>if b=d then nf c else g.fp (.cell b c)|.tmp s c=>g.fp (.tmp s c)}
theorem Nb{d}{ls} r :({ S with bx:=put S.bx d ls}:St).at r=match r with|.cell b c=>if b=d then ls[c]? else S.at (.cell b c)|.tmp s c=>S.at (.tmp s c):=by grind[St.at,GQ]
theorem Inv.AKv(h:Inv F S g a w){d blk:Nat}{E:TypeId}{vs:List Value}{ls:List AS}{nf:Nat->Blk}
 (hs:Still w w') (hw:∀b,b≠blk->b<w.heap.size->w'.heap[b]?=w.heap[b]?) (hblk:w'.heap[blk]?=some (.cells vs.toArray E (0,0)))
 (hK:¬F.K blk) (hfpb:∀r,CP S r->¬g.fp r blk) (hβ:∀id,id≠d->(get S.bx id).isSome->g.β id≠blk)
 (hnames:g.β d=blk\/(∀r l,S.at r=some l->(∀c,r≠.cell d c)->d∉names l)/\∀l∈ls,d∉names l)
 (hroots:∀l,(l∈ls\/∃r,S.at r=some l/\∀c,r≠.cell d c)->∀c x,l.CA=some (.cell d c)->S.at (.cell d c)=some (.ow x) ->
  ls[c]?=some (.ow x)/\vs[c]?=(g.bv d)[c]?/\∀b,g.fp (.cell d c) b->nf c b)
 (hlen:vs.length=ls.length) (hl:∀(c:Nat) (l:AS),ls[c]?=some l->∃v,vs[c]?=some v/\Bz F S g w (nf c) l v)
 (I:∀(c:Nat) x,ls[c]?=some (.ow x)->(∀b,nf c b->¬F.K b)/\(∀r,CP S r->(∀c',r≠.cell d c')->∀b,nf c b->¬g.fp r b) /\
  (∀id,(get S.bx id).isSome->id≠d->¬nf c (g.β id))/\¬nf c blk/\∀(c':Nat) x',ls[c']?=some (.ow x')->c≠c'->∀b,nf c b->¬nf c' b)
 (hpin:d∈S.pin->(get S.bx d).isSome/\g.β d=blk):Inv F { S with bx:=Lv.put S.bx d ls} (g.F9 d blk vs nf) a w':=by
 have tmpd:∀r:CN,(∃c,r=CN.cell d c)\/∀c,r≠CN.cell d c:=by intro r;by_cases y:∃c,r=CN.cell d c;exact .inl y;exact .inr λc hc=>y ⟨c,hc⟩
 have hrv:∀r,(∀c,r≠.cell d c)->(g.F9 d blk vs nf).rv r=g.rv r:=by
  intro r q;cases r with
  |tmp s c=>rfl|cell b c=>
   have:b≠d:=by rintro rfl;exact q c rfl
   simp[Gh.rv,Gh.F9,this]
 have X:∀r,(∀c,r≠.cell d c)->(g.F9 d blk vs nf).fp r=g.fp r:=by
  intro r q;cases r with
  |tmp s c=>rfl|cell b c=>
   have:b≠d:=by rintro rfl;exact q c rfl
   simp[Gh.F9,this]
 have hat:∀r,(∀c,r≠.cell d c)->({ S with bx:=Lv.put S.bx d ls}:St).at r=S.at r:=by
  intro r q;rw[Nb];cases r with
  |tmp s c=>rfl|cell b c=>
   have:b≠d:=by rintro rfl;exact q c rfl
   simp[this]
 have fpd:∀c,(g.F9 d blk vs nf).fp (.cell d c)=nf c:=λc=>by simp[Gh.F9]
 have hKw:∀b,F.K b->w'.heap[b]?=w.heap[b]?:=λb e=>hw b (by rintro rfl;exact hK e) (BZ (h.rlt b e) h.size);have hfw:∀r,CP S r->∀b,g.fp r b->w'.heap[b]?=w.heap[b]?:=by rintro r ⟨x,y⟩ b e;have ⟨v,_,H⟩:=h.C6 r _ y;exact hw b (by rintro rfl;exact hfpb r ⟨x,y⟩ e) (Own.lt H b e)
 have tr:∀{fp:Blk} {l:AS} {v:Value},(l∈ls\/∃r,S.at r=some l/\∀c,r≠.cell d c)->(∀x,l=.ow x->∀b,fp b->w'.heap[b]?=w.heap[b]?) ->
  Bz F S g w fp l v->Bz F { S with bx:=Lv.put S.bx d ls} (g.F9 d blk vs nf) w' fp l v:=by
  intro fp l v hmem hfpw H;by_cases how:∃x,l=.ow x;obtain⟨x,rfl⟩:=how;exact Own.frame H (hfpw x rfl);have hn:∀x,l≠.ow x:=λx y=>how ⟨x,y⟩;refine Bz.any hn ((Bz.any (fp':=λ_=>False) hn H).tr ?_ ?_ (λ_ h=>h.elim) hKw);intro r q;have ⟨x,y⟩:=H.alive q;rcases tmpd r with ⟨c,rfl⟩|Z;have ⟨G,O,h3⟩:=hroots l hmem c x q y;refine⟨?_,?_,?_,hfw _ ⟨x,y⟩⟩;rw[Nb];simpa using G.trans y.symm;simpa[Gh.rv,Gh.F9] using O;intro b e;rw[fpd];exact h3 b e;exact⟨hat r Z,hrv r Z,λb e=>(X r Z).symm▸e,hfw r ⟨x,y⟩⟩;intro id j;by_cases B:id=d;subst B;rcases hnames with e|⟨G,O⟩;simp[Gh.F9,e];rcases hmem with hm|⟨r,q,Z⟩;exact(O l hm j).elim;exact(G r l q Z j).elim;simp[Gh.F9,B]
 have J:∀c,CP { S with bx:=Lv.put S.bx d ls} (.cell d c)->∃x,ls[c]?=some (.ow x):=by rintro c ⟨x,y⟩;rw[Nb]at y;exact⟨x,by simpa using y⟩
 have hal:∀r,(∀c,r≠.cell d c)->CP { S with bx:=Lv.put S.bx d ls} r->CP S r:=by rintro r q ⟨x,y⟩;exact⟨x,(hat r q)▸y⟩
 have hsome:∀id,id≠d->(get (Lv.put S.bx d ls) id).isSome->(get S.bx id).isSome:=by intro id j hs;rw[GQ,Aa j]at hs;exact hs
 have hβd:(g.F9 d blk vs nf).β d=blk:=by simp[Gh.F9]
 have hβo:∀id,id≠d->(g.F9 d blk vs nf).β id=g.β id:=λid j=>by simp[Gh.F9,j]
 have hnlt:∀(c:Nat) x,ls[c]?=some (.ow x)->∀b,nf c b->w'.heap[b]?=w.heap[b]?:=by intro c x y b e;have ⟨v,_,H⟩:=hl c _ y;exact hw b (by rintro rfl;exact(I c x y).2.2.2.1 e) (Own.lt H b e)
 refine { C6:=?_,tms:=h.tms,bxs:=?_,dis:=?_,F3:=?_,Hw:=?_,G1:=?_,bxR:=?_,FZ:=λb e=>(hKw b e).trans (h.FZ b e),rlt:=h.rlt,still:=h.still.trans hs,defs:=h.defs,tsz:=h.tsz,pin:=?_};intro r l L;rcases tmpd r with ⟨c,rfl⟩|q;rw[Nb]at L;simp only[if_true]at L;have ⟨v,hv,H⟩:=hl c l L;refine⟨v,by simpa[Gh.rv,Gh.F9] using hv,?_⟩;rw[fpd];exact tr (.inl (A4 L)) (by rintro x rfl;exact hnlt c x L) H;rw[hat r q]at L;have ⟨v,hv,H⟩:=h.C6 r l L;refine⟨v,(hrv r q).trans hv,?_⟩;rw[X r q];exact tr (.inr ⟨r,L,q⟩) (by rintro x rfl;exact hfw r ⟨x,L⟩) H;intro id ls' hls;simp only[GQ]at hls;by_cases j:id=d;subst j;simp only[if_true,AE]at hls;subst hls;exact⟨⟨E,by simpa[Gh.F9] using hblk⟩,by simpa[Gh.F9] using hlen⟩;simp only[Aa j]at hls;have ⟨⟨E',hE⟩,O⟩:=h.bxs id ls' hls;refine⟨⟨E',?_⟩,by simpa[Gh.F9,j] using O⟩;rw[hβo id j,hw _ (hβ id j (by simp[hls])) (BJ.1 hE).1,hE];simp[Gh.F9,j];intro r r' q hr' Z b e Q;rcases tmpd r with ⟨c,rfl⟩|G;have ⟨x,y⟩:=J c q;rw[fpd]at e;rcases tmpd r' with ⟨c',rfl⟩|O;have ⟨x',hx'⟩:=J c' hr';rw[fpd]at Q;exact(I c x y).2.2.2.2 c' x' hx' (by rintro rfl;exact Z rfl) b e Q;rw[X r' O]at Q;exact(I c x y).2.1 r' (hal r' O hr') O b e Q;rw[X r G]at e;rcases tmpd r' with ⟨c',rfl⟩|O;have ⟨x',hx'⟩:=J c' hr';rw[fpd]at Q;exact(I c' x' hx').2.1 r (hal r G q) G b Q e;rw[X r' O]at Q;exact h.dis r r' (hal r G q) (hal r' O hr') Z b e Q;intro r id q j e;by_cases B:id=d;subst B;rw[hβd]at e;rcases tmpd r with ⟨c,rfl⟩|G;have ⟨x,y⟩:=J c q;rw[fpd]at e;exact(I c x y).2.2.2.1 e;rw[X r G]at e;exact hfpb r (hal r G q) e;rw[hβo id B]at e;rcases tmpd r with ⟨c,rfl⟩|G;have ⟨x,y⟩:=J c q;rw[fpd]at e;exact(I c x y).2.2.1 id (hsome id B j) B e;rw[X r G]at e;exact h.F3 r id (hal r G q) (hsome id B j) e;intro r q b e;rcases tmpd r with ⟨c,rfl⟩|G;have ⟨x,y⟩:=J c q;rw[fpd]at e;exact(I c x y).1 b e;rw[X r G]at e;exact h.Hw r (hal r G q) b e;intro id id' G O he;by_cases hi:id=d;by_cases Y:id'=d;exact hi.trans Y.symm;subst hi;rw[hβd,hβo id' Y]at he;exact(hβ id' Y (hsome id' Y O) he.symm).elim;by_cases Y:id'=d;subst Y;rw[hβd,hβo id hi]at he;exact(hβ id hi (hsome id hi G) he).elim;rw[hβo id hi,hβo id' Y]at he;exact h.G1 id id' (hsome id hi G) (hsome id' Y O) he;intro id G;by_cases hi:id=d;subst hi;rw[hβd];exact hK;rw[hβo id hi];exact h.bxR id (hsome id hi G);intro p hp;have ⟨G,O⟩:=h.pin p hp;refine⟨G,λhsm=>?_⟩;by_cases hi:p=d;subst hi;rw[hβd];exact(hpin hp).2.symm.trans (O (hpin hp).1);rw[hβo p hi];exact O (hsome p hi hsm)
end
theorem QJ{d}(ls:List d) o  cs :(ES ls o cs).length=ls.length:=by
 induction cs generalizing ls o with
 |nil=>rfl|cons c cs e=>simp[ES,e]
theorem Gu{d}(ls:List d) o  cs(h:o+cs.length<=ls.length) c  :
 (ES ls o cs)[c]?=if o<=c/\c<o+cs.length then cs[c-o]? else ls[c]?:=by
 induction cs generalizing ls o with
 |nil=>simp only[ES,AT];rw[Aa (by omega)]|cons x cs e=>grind[ES]
theorem Lu(ls:List d) o  cs(h:o+cs.length<=ls.length):ES ls o cs=ls.take o++cs++ls.drop (o+cs.length):=by apply List.ext_getElem?;intro c;rw[Gu ls o cs h,BF,List.getElem?_append];grind[min]
section
variable{F:Fix}{S S':St}{g g':Gh}{a a':Act}{w w':World}
variable{l:AS}{new:Array Value}{r:CN}{rows ys:List (List T)}{cs:List AS}{vs:List Value}{nf:Nat->Blk}
theorem ch{d}{l}(h:Gb d l=false):d∉names l:=by
 cases l with
 |bp id off=>simp[Gb,AS.Nn]at h;simp[names,Ne.symm h]|fn f caps=>grind[Gb,names,AS.Nn]
 |_=>simp[names]
theorem QG{d c}(h:Gb d l=false):l.CA≠some (.cell d c):=by intro e;have:=AEA e;cases l<;>simp_all[Gb,AS.CA]
theorem NK(q:AS->Bool)(c:q (.t .top)=false)(h:(S.kill q).at r=some l):q l=false:=by grind[IZ,Option.map_eq_some_iff]
theorem TN(q:AS->Bool)(c:q (.t .top)=false){ls:List AS}(h:l∈FD q ls):q l=false:=by grind[List.getElem?_of_mem,HU]
theorem Cells.grow(h:Inv F S g a w)(y:Cells F S g w cs vs nf)
 (G:∀b,b<w.heap.size->w'.heap[b]?=w.heap[b]?):Cells F S g w' cs vs nf:=by
 refine⟨y.1,?_,y.2.2⟩;intro c l J;have ⟨v,L,e⟩:=y.2.1 c l J;refine⟨v,L,?_⟩;have B:∀r,CP S r->∀b,g.fp r b->w'.heap[b]?=w.heap[b]?:=by rintro r ⟨x,H⟩ b j;have ⟨v,_,e⟩:=h.C6 r _ H;exact G b (Own.lt e b j)
 by_cases q:∃x,l=.ow x;obtain⟨x,rfl⟩:=q;exact Own.frame e λb j=>G b (Own.lt e b j);have I:∀x,l≠.ow x:=λx H=>q ⟨x,H⟩;exact Bz.any I ((Bz.any (fp':=λ_=>False) I e).tr (S':=S) (g':=g) (w':=w') (λO E=>⟨rfl,rfl,λ_ h=>h,B O (e.alive E)⟩) (λ_ _=>rfl) (λ_ h=>h.elim)
  λb j=>G b (BZ (h.rlt b j) h.size))
def World.push(w:World)(o:Obj):World:={ w with heap:=w.heap.push o}
theorem Fe{o}{b}(c:b<w.heap.size):(World.push w o).heap[b]?=w.heap[b]?:=by show (w.heap.push o)[b]?=_;rw[HW,Aa (Oe c)]
theorem MW{o}:(World.push w o).heap[w.heap.size]?=some o:=by show (w.heap.push o)[w.heap.size]?=_;rw[HW,AY rfl]
theorem Still.push{o}:Still w (World.push w o):=Still.alloc
def N8(d:Nat)(l:AS):Bool:=Fb d l||Gb d l
theorem Inv.ATM(h:Inv F S g a w){d}(hd:d<F.N)(hp:d∉S.pin)(hc:Cells F S g w cs vs nf) E  :
 ∃g',Inv F { S.kill (N8 d) with tm:=Lv.put (S.kill (N8 d)).tm d ⟨.one,[.bp d 0]⟩,bx:=Lv.put (S.kill (N8 d)).bx d (FD (N8 d) cs)} g'
  (a.put (some d) (.pointer (some ⟨w.heap.size,0,none⟩))) (World.push w (.cells vs.toArray E (0,0))):=by
 have hq:∀x,N8 d (.ow x)=false:=λx=>rfl;have B:N8 d (.t .top)=false:=rfl;have j:∀{l},N8 d l=false->Gb d l=false/\Fb d l=false:=by intro l q;simp[N8,Bool.or_eq_false_iff]at q;exact⟨q.2,q.1⟩
 have Q:=h.kill (N8 d) hq;have y:=hc.kill (N8 d) hq;have Y:∀r,CP (S.kill (N8 d)) r->¬g.fp r w.heap.size:=by rintro r ⟨x,G⟩ J;have ⟨v,_,I⟩:=Q.C6 r _ G;exact J3 _ (Own.lt I _ J)
 have L:∀(c:Nat) x,(FD (N8 d) cs)[c]?=some (.ow x)->¬nf c w.heap.size:=by intro c x G J;have ⟨v,_,I⟩:=y.2.1 c _ G;exact J3 _ (Own.lt I _ J)
 have h2:=Q.AKv (d:=d) (blk:=w.heap.size) (E:=E) (vs:=vs) (ls:=FD (N8 d) cs) (nf:=nf) (w':=World.push w (.cells vs.toArray E (0,0)))
  Still.push (λb _ J=>Fe J) MW (λhK=>J3 _ (BZ (h.rlt _ hK) h.size)) Y
  (by intro id _ H he;have ⟨ls,X⟩:=Bq.1 H;have ⟨⟨E',hE⟩,_⟩:=Q.bxs id ls X;rw[he]at hE;simp at hE)
  (.inr ⟨λr l q _=>ch (j (NK _ B q)).1,λl q=>ch (j (TN _ B q)).1⟩)
  (by rintro l (q|⟨r,q,_⟩) c x O _;exact(QG (j (TN _ B q)).1 O).elim;exact(QG (j (NK _ B q)).1 O).elim)
  y.1 y.2.1 (λc x G=>⟨(y.2.2 c x G).1,λr O _=>(y.2.2 c x G).2.1 r O,λid H _=>(y.2.2 c x G).2.2.1 id H,L c x G,(y.2.2 c x G).2.2.2⟩)
  (λZ=>(hp Z).elim)
 refine⟨_,h2.put (d:=d) (e:=⟨.one,[.bp d 0]⟩) (vs:=[.pointer (some ⟨w.heap.size,0,none⟩)]) (nf:=λ_ _=>False) hd hp ?_ ?_ ?_⟩;intro r l q _;rw[Nb]at q;cases r with
 |tmp s c=>exact(j (NK _ B q)).2|cell b c=>simp at q;split at q;exact(j (TN _ B (A4 q))).2;exact(j (NK _ B q)).2
 simp[Fb,AS.CA];refine Cells.free rfl ?_ (by simp);intro c l q;cases c with|zero=>simp[AN,AE]at q;subst q;exact⟨_,rfl,by show _=_;simp[Gh.F9]⟩|succ c=>simp at q
theorem AEI{blk:Nat}{cur:Array Value}{E:TypeId}(h:w.heap[blk]?=some (.cells cur E (0,0))):(w.setRow blk new).heap[blk]?=some (.cells new E (0,0)):=by simp[World.setRow,Gn,h]
theorem setRow_other{blk b}(h:b≠blk):(w.setRow blk new).heap[b]?=w.heap[b]?:=by simp[World.setRow,Gn,Ne.symm h]
theorem Inv.AVP(h:Inv F S g a w)(hc:Cells F S g w cs vs nf){id o:Nat}{ls:List AS}
 (hls:get (S.kill (JH id o cs.length)).bx id=some ls) (hle:o+cs.length<=ls.length) :
 ∃g',Inv F { S.kill (JH id o cs.length) with bx:=Lv.put (S.kill (JH id o cs.length)).bx id (ES ls o (FD (JH id o cs.length) cs))} g' a
  (w.setRow (g.β id) ((g.bv id).take o++vs++(g.bv id).drop (o+vs.length)).toArray):=by
 generalize hqd:JH id o cs.length=q at *;have hq:∀x,q (.ow x)=false:=λx=>by subst hqd;rfl
 have hqt:q (.t .top)=false:=by subst hqd;rfl
 have I:=h.kill q hq;have hc1:=hc.kill q hq;have hroot:∀{l:AS} {c:Nat},q l=false->l.CA=some (.cell id c)->¬(o<=c/\c<o+cs.length):=by intro l c G e L;subst hqd;simp[JH,e,decide_true,Bool.true_and,JO,decide_eq_false_iff_not]at G;omega
 have ⟨⟨E,hE⟩,hlen⟩:=I.bxs id ls hls;have hsome:(get (S.kill q).bx id).isSome:=by simp[hls]
 have hkl:(FD q cs).length=cs.length:=Fy _ _;have hvl:vs.length=cs.length:=hc.1;have Z:o+vs.length<=(g.bv id).length:=by omega
 have B:∀c,(ES ls o (FD q cs))[c]?=if o<=c/\c<o+cs.length then (FD q cs)[c-o]? else ls[c]?:=by intro c;rw[Gu _ _ _ (by omega),hkl]
 have hgetv:∀c,((g.bv id).take o++vs++(g.bv id).drop (o+vs.length))[c]?=if o<=c/\c<o+cs.length then vs[c-o]? else (g.bv id)[c]?:=by intro c;rw[<-Lu _ _ _ Z,Gu _ _ _ Z,hvl]
 have y:∀c,(S.kill q).at (.cell id c)=ls[c]?:=by simp[St.at,hls]
 have hlen2:((g.bv id).take o++vs++(g.bv id).drop (o+vs.length)).length=(ES ls o (FD q cs)).length:=by rw[<-Lu _ _ _ Z,QJ,QJ,hlen]
 let j:Nat->Blk:=λc=>if o<=c/\c<o+cs.length then nf (c-o) else g.fp (.cell id c)
 have hcase:∀(c:Nat) x,(ES ls o (FD q cs))[c]?=some (.ow x) ->
  (o<=c/\c<o+cs.length/\(FD q cs)[c-o]?=some (.ow x)/\j c=nf (c-o))\/(¬(o<=c/\c<o+cs.length)/\(S.kill q).at (.cell id c)=some (.ow x)/\j c=g.fp (.cell id c)):=by
  intro c x Q;rw[B]at Q;by_cases e:o<=c/\c<o+cs.length;rw[AY e]at Q;exact .inl ⟨e.1,e.2,Q,by simp[j,e]⟩;rw[Aa e]at Q;exact .inr ⟨e,(y c).trans Q,by simp[j,Aa e]⟩
 refine⟨_,I.AKv (d:=id) (blk:=g.β id) (E:=E) (nf:=j) Still.setRow (λb L _=>setRow_other L) (AEI hE) (I.bxR id hsome)
  (λr e=>I.F3 r id e hsome) (λX H hs he=>H (I.G1 X id hs hsome he)) (.inl rfl) ?_ hlen2 ?_ ?_ (λ_=>⟨hsome,rfl⟩)⟩
 intro l G c x e Q;have hql:q l=false:=by rcases G with G|⟨r,G,_⟩;have ⟨c',O⟩:=B0 G;rw[B]at O;split at O;exact TN _ hqt (A4 O);exact NK _ hqt ((y c').trans O);exact NK _ hqt G
 have J:=hroot hql e;refine⟨?_,?_,?_⟩;rw[B,Aa J,<-y];exact Q;rw[hgetv,Aa J];intro b L;simp[j,Aa J];exact L;intro c l G;rw[B]at G;by_cases e:o<=c/\c<o+cs.length;rw[AY e]at G;have ⟨v,hv,hok⟩:=hc1.2.1 _ _ G;exact⟨v,by rw[hgetv,AY e];exact hv,by simp[j,AY e];exact hok⟩;rw[Aa e]at G;have ⟨v,hv,hok⟩:=I.C6 (.cell id c) l ((y c).trans G);exact⟨v,by rw[hgetv,Aa e];exact hv,by simp[j,Aa e];exact hok⟩;intro c x Q;rcases hcase c x Q with ⟨h3,Y,h5,h6⟩|⟨h3,Y,h6⟩;have ⟨p1,p2,p3,p4⟩:=hc1.2.2 _ _ h5;rw[h6];refine⟨p1,λr e _=>p2 r e,λX hs _=>p3 X hs,p3 id hsome,?_⟩;intro c' x' hx' H b L;rcases hcase c' x' hx' with ⟨k3,k4,k5,k6⟩|⟨k3,k4,k6⟩;rw[k6];exact p4 _ _ k5 (by omega) b L;rw[k6];exact p2 _ ⟨_,k4⟩ b L;rw[h6];refine⟨I.Hw _ ⟨_,Y⟩,λr e H=>I.dis _ _ ⟨_,Y⟩ e (Ne.symm (H c)),λX hs _=>I.F3 _ _ ⟨_,Y⟩ hs,I.F3 _ _ ⟨_,Y⟩ hsome,?_⟩;intro c' x' hx' H b L;rcases hcase c' x' hx' with ⟨k3,k4,k5,k6⟩|⟨k3,k4,k6⟩;rw[k6];exact λhb'=>(hc1.2.2 _ _ k5).2.1 _ ⟨_,Y⟩ b hb' L;rw[k6];exact I.dis _ _ ⟨_,Y⟩ ⟨_,k4⟩ (by simpa using H) b L
theorem Inv.zV(h:Inv F S g a w){e:Nat}{xs:List (List T)}{u:Value}{fp':Blk}(hx:S.at r=some (.ow (.sl e xs)))(hu:g.rv r=some u)(hl:ys.length=xs.length)
 (hs:Still w w') (hw:∀b,b<w.heap.size->¬g.fp r b->w'.heap[b]?=w.heap[b]?) (hown:Own w' (.sl e ys) u fp') (hK:∀b,fp' b->¬F.K b)
 (hdis:∀r',CP S r'->r'≠r->∀b,fp' b->¬g.fp r' b) (hB:∀id,(get S.bx id).isSome->¬fp' (g.β id)) :
 Inv F ((S.Bk r (.ow (.sl e ys))).kill (GS r)) { g with fp:=λr'=>if r'=r then fp' else g.fp r'} a w':=by
 have Z:∀r',((S.Bk r (.ow (.sl e ys))).kill (GS r)).at r'=(if r'=r then some (.ow (.sl e ys)) else S.at r').map λl=>if GS r l then .t .top else l:=by intro r';rw[IZ,FR hx]
 have Q:∀r',CP ((S.Bk r (.ow (.sl e ys))).kill (GS r)) r'->CP S r':=by rintro r' ⟨x,hx'⟩;rw[Z,AM]at hx';have ⟨l,H,J⟩:=hx';split at J;cases J;subst J;split at H;subst_vars;exact⟨_,hx⟩;exact⟨x,H⟩
 have hsome:∀id,(get ((S.Bk r (.ow (.sl e ys))).kill (GS r)).bx id).isSome->(get S.bx id).isSome:=by intro id hid;simp[St.kill,Dp,FG]at hid;rwa[D8]at hid
 have hKw:∀b,F.K b->w'.heap[b]?=w.heap[b]?:=λb c=>hw b (BZ (h.rlt b c) h.size) λhf=>h.Hw r ⟨_,hx⟩ b hf c;have hfw:∀r',CP S r'->r'≠r->∀b,g.fp r' b->w'.heap[b]?=w.heap[b]?:=by rintro r' ⟨x,hx'⟩ G b c;have ⟨v,_,L⟩:=h.C6 r' _ hx';exact hw b (Own.lt L b c) (h.dis r' r ⟨x,hx'⟩ ⟨_,hx⟩ G b c)
 let g':Gh:={ g with fp:=λr'=>if r'=r then fp' else g.fp r'}
 have I:g'.fp r=fp':=by simp[g']
 have B:∀r',r'≠r->g'.fp r'=g.fp r':=λr' G=>by simp[g',G]
 have tr:∀{fp:Blk} {l:AS} {v:Value},GS r l=false->(∀x,l≠.ow x)->Bz F S g w fp l v->Bz F ((S.Bk r (.ow (.sl e ys))).kill (GS r)) g' w' fp l v:=by
  intro fp l v hin hno L;by_cases hr:l.CA=some r;match l,L with
  |.al q sub,⟨x,u1,y,O,h3⟩=>
   cases hr;rw[hx]at y;cases y;refine⟨.sl e ys,u1,by rw[Z,AY rfl];rfl,O,?_⟩;cases sub with
   |none=>exact h3|some p=>
    obtain⟨blk,off,len,cap,off',cap',q1,q2,q3,q4⟩|⟨q1,q2,rfl,q4⟩:=h3;exact .inl ⟨blk,off,len,cap,off',cap',q1,q2,by omega,q4⟩;exact .inr ⟨q1,q2,List.eq_nil_of_length_eq_zero (by simpa using hl),q4⟩
  |.ep q i j,⟨Y,xs1,blk,off,len,cap,y,O,h3,h4⟩=>cases hr;rw[hx]at y;cases y;exact⟨e,ys,blk,off,len,cap,by rw[Z,AY rfl];rfl,O,by omega,h4⟩
  |.vw (.own q _) Y xs1,_=>cases hr;simp[GS]at hin
  |.vp (.own q _) cs1,_=>cases hr;simp[GS]at hin
  refine Bz.any hno ((Bz.any (fp':=λ_=>False) hno L).tr ?_ (λ_ _=>rfl) (λ_ h=>h.elim) hKw);intro q hr1;have ⟨x,hx1⟩:=L.alive hr1;have G:q≠r:=by rintro rfl;exact hr hr1
  refine⟨?_,rfl,λb c=>by rw[B q G];exact c,hfw q ⟨x,hx1⟩ G⟩;rw[Z,Aa G,hx1];rfl
 refine { C6:=?_,tms:=?_,bxs:=?_,dis:=?_,F3:=?_,Hw:=?_,G1:=λid id' y O=>h.G1 id id' (hsome id y) (hsome id' O),bxR:=λid y=>h.bxR id (hsome id y),FZ:=λb c=>(hKw b c).trans (h.FZ b c),rlt:=h.rlt,still:=h.still.trans hs,defs:=h.defs,tsz:=h.tsz,pin:=?_};intro r' l hl;rw[Z,AM]at hl;have ⟨l0,H,J⟩:=hl;by_cases hr:r'=r;subst hr;rw[AY rfl]at H;cases H;subst J;exact⟨u,hu,by rw[I];exact hown⟩;rw[Aa hr]at H;have ⟨v,hv,L⟩:=h.C6 r' l0 H;refine⟨v,hv,?_⟩;split at J;subst J;exact Bz.top;rename_i hin;subst J;by_cases how:∃x,l0=.ow x;obtain⟨x,rfl⟩:=how;rw[B r' hr];exact Own.frame L (hfw r' ⟨x,H⟩ hr);have hno:∀x,l0≠.ow x:=λx hx=>how ⟨x,hx⟩;exact Bz.any hno (tr (by simpa using hin) hno L);intro s e' he;simp[St.kill,Fx,AM]at he;obtain⟨Y,he1,rfl⟩:=he;have ⟨e0,y,O,h3⟩:=NZ he1;have ⟨p1,p2,p3⟩:=h.tms s e0 y;exact⟨p1,by rw[p2,O],by rw[p3,Fy,h3]⟩;intro id ls' hls;simp[St.kill,Dp,AM]at hls;obtain⟨l1,H,rfl⟩:=hls;have ⟨l0,y,O⟩:=J9 H;have ⟨⟨E,hE⟩,p2⟩:=h.bxs id l0 y;refine⟨⟨E,(hw _ (BJ.1 hE).1 λhf=>h.F3 r id ⟨_,hx⟩ (by simp[y]) hf).trans hE⟩,by rw[p2,Fy,O]⟩;intro q r2 y O G b c X;by_cases Y:q=r;subst Y;rw[I]at c;rw[B r2 (Ne.symm G)]at X;exact hdis r2 (Q r2 O) (Ne.symm G) b c X;rw[B q Y]at c;by_cases e2:r2=r;subst e2;rw[I]at X;exact hdis q (Q q y) Y b X c;rw[B r2 e2]at X;exact h.dis q r2 (Q q y) (Q r2 O) G b c X;intro q id y hid c;by_cases Y:q=r;subst Y;rw[I]at c;exact hB id (hsome id hid) c;rw[B q Y]at c;exact h.F3 q id (Q q y) (hsome id hid) c;intro q y b c;by_cases Y:q=r;subst Y;rw[I]at c;exact hK b c;rw[B q Y]at c;exact h.Hw q (Q q y) b c;intro p hp;have hpp:p∈S.pin:=by have:((S.Bk r (.ow (.sl e ys))).kill (GS r)).pin=S.pin:=H9;rwa[this]at hp
 have ⟨y,O⟩:=h.pin p hpp;exact⟨y,λhs=>O (hsome p hs)⟩
theorem Inv.AU0(h:Inv F S g a w){e:Nat}{xs:List (List T)}{u:Value}{fp':Blk}(G:S.at r=some (.ow (.sl e xs)))(B:g.rv r=some u)(q:ys.length=xs.length)
 (y:Still w w') (E:∀b,b<w.heap.size->¬g.fp r b->w'.heap[b]?=w.heap[b]?) (j:Own w' (.sl e ys) u fp') (hK:∀b,fp' b->¬F.K b)
 (c:∀r',CP S r'->r'≠r->∀b,fp' b->¬g.fp r' b) (hB:∀id,(get S.bx id).isSome->¬fp' (g.β id)) :
 ∃g',Inv F ((S.Bk r (.ow (.sl e ys))).kill (GS r)) g' a w':=⟨_,h.zV G B q y E j hK c hB⟩
theorem AAc{i j}{x y}(h:at2 rows i j=some y) c e :at2 (KN rows i j x) c e=if c=i/\e=j then some x else at2 rows c e:=by grind[at2,List.getElem?_eq_some_iff,List.getD,KN]
theorem Se{i j}{x}:(KN rows i j x).length=rows.length:=by simp[KN]
theorem tu{i j e}{x}(h:∀row∈rows,row.length=e)(hi:i<rows.length):∀row∈KN rows i j x,row.length=e:=by intro row c;rcases Cb c with c|rfl;exact h row c;grind[List.length_set,List.getD]
theorem Own.hole{e:Nat}{rows:List (List T)}{blk off len cap:Nat}{fp:Blk}{i j:Nat}{y:T}{v:Value}(h:Own w (.sl e rows) (.slice (some ⟨blk,off,none⟩) len cap) fp)(O:at2 rows i j=some y)
 (hv:w.cell? ⟨blk,off+i*e+j,none⟩=some v) :
 ∃S0 fp':Blk,Own w y v S0/\Own w (.sl e (KN rows i j .top)) (.slice (some ⟨blk,off,none⟩) len cap) fp'/\(∀b,S0 b->fp b)/\(∀b,fp' b->fp b)/\∀b,S0 b->¬fp' b:=by
 cases h with
 |sc h _ _=>exact h.elim|sl c f h1 h2 h3 h4 h5 h6 h7 h8 h9 Q=>
  have hc:c i j=v:=by rw[h4.cell,h6 i j y O]at hv;exact Option.some.inj hv
  subst hc;have L:=h7 i j y O;have hi:=ug O;have H:∀q B x,at2 (KN rows i j .top) q B=some x->(q=i/\B=j/\x=.top)\/(¬(q=i/\B=j)/\at2 rows q B=some x):=by intro q B x I;rw[AAc O]at I;split at I;rename_i G;exact .inl ⟨G.1,G.2,(Option.some.inj I).symm⟩;next G=>exact .inr ⟨G,I⟩
  refine⟨f i j,λb=>b=blk\/∃q B x,at2 (KN rows i j .top) q B=some x/\(if q=i/\B=j then λ_=>False else f q B) b,L,
   .sl c (λq B=>if q=i/\B=j then λ_=>False else f q B) (by rw[Se];exact h1) h2 (tu h3 hi) h4 h5 ?_ ?_ ?_ ?_ (λb=>Iff.rfl),?_,?_,?_⟩
  intro q B x I;rcases H q B x I with ⟨rfl,rfl,rfl⟩|⟨G,E⟩;exact h6 _ _ _ O;exact h6 _ _ _ E;intro q B x I;rcases H q B x I with ⟨rfl,rfl,rfl⟩|⟨G,E⟩;exact .sc trivial L.one (by simp);rw[Aa G];exact h7 _ _ _ E;intro q B x I;rcases H q B x I with ⟨rfl,rfl,rfl⟩|⟨G,E⟩;simp;rw[Aa G];exact h8 _ _ _ E;intro i1 j1 x1 i2 j2 x2 hx1 hx2 hne b J;rcases H i1 j1 x1 hx1 with ⟨rfl,rfl,rfl⟩|⟨G,Y⟩;simp at J;rw[Aa G]at J;rcases H i2 j2 x2 hx2 with ⟨rfl,rfl,rfl⟩|⟨hh2,Z⟩;simp;rw[Aa hh2];exact h9 _ _ _ _ _ _ Y Z hne b J;intro b J;exact(Q b).2 (.inr ⟨i,j,y,O,J⟩);rintro b (rfl|⟨q,B,x,I,J⟩);exact(Q _).2 (.inl rfl);rcases H q B x I with ⟨rfl,rfl,rfl⟩|⟨G,E⟩;simp at J;rw[Aa G]at J;exact(Q b).2 (.inr ⟨q,B,x,E,J⟩);rintro b J (rfl|⟨q,B,x,I,X⟩);exact h8 i j y O J;rcases H q B x I with ⟨rfl,rfl,rfl⟩|⟨G,E⟩;simp at X;rw[Aa G]at X;exact h9 i j y q B x O E (by rintro rfl rfl;exact G ⟨rfl,rfl⟩) b J X
def ALL(x x':T):Prop:=x'=x\/∃e xs xs',x=.sl e xs/\x'=.sl e xs'/\xs'.length=xs.length
theorem ALL.trans{x y z}(h:ALL x y)(j:ALL y z):ALL x z:=by rcases h with rfl|⟨e,xs,ys,rfl,rfl,q⟩;exact j;rcases j with rfl|⟨G,E,zs,B,rfl,c⟩;exact .inr ⟨e,xs,ys,rfl,rfl,q⟩;cases B;exact .inr ⟨e,xs,zs,rfl,rfl,c.trans q⟩
structure Ju(F:Fix)(S S':St)(g g':Gh)(a:Act)(w:World):Prop where
 inv:Inv F S' g' a w
 ADV:∀r x',S'.at r=some (.ow x')->∃x,S.at r=some (.ow x)/\ALL x x'
 bx:∀id,(get S'.bx id).isSome->(get S.bx id).isSome
 pin:S'.pin=S.pin
 tv:g'.tv=g.tv
 bv:g'.bv=g.bv
 β:g'.β=g.β
 fp:∀r b,g'.fp r b->g.fp r b
theorem Tt.toG(h:Tt F S S' g a w):Ju F S S' g g a w:=⟨h.inv,λr x c=>⟨x,h.same r x c,.inl rfl⟩,h.bx,h.pin,rfl,rfl,rfl,λ_ _ h=>h⟩
theorem Ju.al(h:Ju F S S' g g' a w):∀r,CP S' r->CP S r:=λr ⟨x,c⟩=>let ⟨y,e,_⟩:=h.ADV r x c;⟨y,e⟩
theorem Ju.rv(h:Ju F S S' g g' a w) r :g'.rv r=g.rv r:=by cases r<;>simp[Gh.rv,h.tv,h.bv]
theorem Ju.trans{S2}{q}(h:Ju F S S' g g' a w)(c:Ju F S' S2 g' q a w):Ju F S S2 g q a w:=
 ⟨c.inv,λr x G=>let ⟨y,H,E⟩:=c.ADV r x G;let ⟨z,I,j⟩:=h.ADV r y H;⟨z,I,j.trans E⟩,λid e=>h.bx id (c.bx id e),c.pin.trans h.pin,c.tv.trans h.tv,c.bv.trans h.bv,c.β.trans h.β,λr b B=>h.fp r b (c.fp r b B)⟩
theorem uJ(h:Inv F S g a w){x:T}(e:S.at r=some (.ow x)):Tt F S (S.out r) g a w:=
 ⟨h.out e,λ_ _ j=>ni e j,λ_ c=>XU c,zL⟩
theorem Bz.off{fp}{v}(h:Bz F S g w fp l v)(B:l.CA≠some r)(hS:∀r',r'≠r->CP S r'->S'.at r'=S.at r')(y:∀r',r'≠r->g'.fp r'=g.fp r')(E:∀r',g'.rv r'=g.rv r')(hβ:g'.β=g.β):Bz F S' g' w fp l v:=by
 refine h.tr ?_ (λ_ _=>by rw[hβ]) (λ_ _=>rfl) λ_ _=>rfl;intro j e;have c:j≠r:=by rintro rfl;exact B e
 exact⟨hS j c (h.alive e),E j,λb q=>by rw[y j c];exact q,λ_ _=>rfl⟩
theorem QA{i j}(c:S.pull r i j=some S'):∃e rows,S.at r=some (.ow (.sl e rows))/\S'=(S.Bk r (.ow (.sl e (KN rows i j .top)))).kill (GS r):=by grind[St.pull,Option.some.inj]
theorem Qw{e:Nat}{ys:List (List T)}(c:S.at r=some (.ow (.sl e rows)))(r':CN) :
 ((S.Bk r (.ow (.sl e ys))).kill (GS r)).at r'=(if r'=r then some (.ow (.sl e ys)) else S.at r').map λl=>if GS r l then .t .top else l:=by rw[IZ,FR c]
theorem tP{e:Nat}(y:S.at r=some (.ow (.sl e rows)))(B:ys.length=rows.length) :
 ∀r' q,((S.Bk r (.ow (.sl e ys))).kill (GS r)).at r'=some (.ow q)->∃x,S.at r'=some (.ow x)/\ALL x q:=by intro r' q j;rw[Qw y,AM]at j;have ⟨l,c,h⟩:=j;split at h;cases h;subst h;split at c;subst_vars;cases c;exact⟨_,y,.inr ⟨e,rows,ys,rfl,rfl,B⟩⟩;exact⟨q,c,.inl rfl⟩
theorem AXB{e:Nat}{ys:List (List T)}(j:S.at r=some (.ow (.sl e rows))) :
 ∀r',r'≠r->CP S r'->((S.Bk r (.ow (.sl e ys))).kill (GS r)).at r'=S.at r':=by rintro r' c ⟨x,h⟩;rw[Qw j,Aa c,h];rfl
theorem AXC{id:Nat}(h:(get ((S.Bk r l).kill (GS r)).bx id).isSome):(get S.bx id).isSome:=by simp[St.kill,Dp,FG]at h;rwa[D8]at h
theorem ADr:((S.Bk r l).kill (GS r)).pin=S.pin:=H9
theorem Inv.pull(h:Inv F S g a w){i j e:Nat}{xs:List (List T)}{v:Value}(X:S.pull r i j=some S')(Q:AtC S g w r (some (i,j)) e xs v) :
 ∃(S0:Blk) (g':Gh),Ju F S S' g g' a w/\Own w (.sl e xs) v S0/\(∀b,S0 b->g.fp r b)/\(∀b,S0 b->¬g'.fp r b)/\(∀r',r'≠r->g'.fp r'=g.fp r') /\
  (∀r',r'≠r->CP S r'->S'.at r'=S.at r')/\CP S r:=by
 obtain⟨e0,rows,c,rfl⟩:=QA X;have ⟨e1,rows1,blk,off,len,cap,L,O,Y,k4,Z⟩:=Q;rw[c]at L;cases L;have ⟨u,J,E⟩:=h.C6 r _ c;rw[O]at J;cases J;have ⟨S0,fp',o1,o2,o3,I,o5⟩:=Own.hole E Y Z;have B:=h.zV (w':=w) (ys:=KN rows i j .top) (fp':=fp') c O Se Still.refl (λ_ _ _=>rfl) o2 (λb y=>h.Hw r ⟨_,c⟩ b (I b y)) (λr' H G b y=>h.dis r r' ⟨_,c⟩ H (Ne.symm G) b (I b y))
  (λid q y=>h.F3 r id ⟨_,c⟩ q (I _ y))
 refine⟨S0,_,⟨B,tP c Se,λid q=>AXC q,ADr,rfl,rfl,rfl,?_⟩,o1,o3,?_,?_,AXB c,⟨_,c⟩⟩;grind;grind;grind
theorem zK{r}{ls}(h:onR r ls=false):∀l∈ls,l.CA≠some r:=by
 induction ls with
 |nil=>simp|cons l ls c=>grind[onR,Bool.or_eq_false_iff,decide_eq_false_iff_not]
def AOF(F:Fix)(S:St)(g:Gh)(w:World)(cs:List T)(vs:List Value)(nf:Nat->Blk):Prop:=
 vs.length=cs.length/\(∀(c:Nat) x,cs[c]?=some x->∃v,vs[c]?=some v/\Own w x v (nf c)) /\
  (∀c b,c<cs.length->nf c b->¬F.K b)/\(∀c r b,c<cs.length->CP S r->nf c b->¬g.fp r b)/\(∀c id,c<cs.length->(get S.bx id).isSome->¬nf c (g.β id)) /\
  ∀c c' b,c<cs.length->c'<cs.length->c≠c'->nf c b->¬nf c' b
theorem WA{ls:List AS}{cs:List T}{vs:List Value}(h:Inv F S g a w)(hn:∀x,AS.ow x∉ls)(X:vs.length=ls.length)
 (hok:∀(c:Nat) (l:AS),ls[c]?=some l->∃v,vs[c]?=some v/\(∀r,l.CA=some r->CP S r->Bz F S g w (λ_=>False) l v)/\(l.CA=none->Bz F S g w (λ_=>False) l v))
 (G:D5 S ls=some (S',cs)) :
 ∃g',Ju F S S' g g' a w /\
 ∃nf:Nat->Blk,AOF F S' g' w cs vs nf/\∀c b,c<cs.length->nf c b->∃l r,ls[c]?=some l/\l.CA=some r/\CP S r/\g.fp r b:=by
 induction ls generalizing S S' g cs vs with
 |nil=>simp only[D5,AE,BC]at G;obtain⟨rfl,rfl⟩:=G;exact⟨g,Tt.toG ⟨h,λ_ _ h=>h,λ_ h=>h,rfl⟩,λ_ _=>False,⟨X,by simp,by simp,by simp,by simp,by simp⟩,by simp⟩
 |cons l ls ih=>
  obtain⟨v,vs,rfl⟩:∃v vs',vs=v::vs':=by cases vs with|nil=>simp at X|cons v vs=>exact⟨v,vs,rfl⟩
  simp only[AK,IM]at X;have hn':∀x,AS.ow x∉ls:=λx O=>hn x (Am _ O);have ⟨v0,hv0,hroot,hnone⟩:=hok 0 l rfl;simp only[AN,AE]at hv0;subst hv0;have step:∀(r:CN) (_:l.CA=some r) (y:T) (S0:Blk) (S1 S2:St) (g1:Gh) (B:List T),Ju F S S1 g g1 a w->CP S r->(∀b,S0 b->g.fp r b)->(∀b,S0 b->CP S1 r->¬g1.fp r b)->(∀l'∈ls,∀v',(∀r',l'.CA=some r'->CP S r'->Bz F S g w (λ_=>False) l' v')->(l'.CA=none->Bz F S g w (λ_=>False) l' v') ->
   (∀r',l'.CA=some r'->CP S1 r'->Bz F S1 g1 w (λ_=>False) l' v')/\(l'.CA=none->Bz F S1 g1 w (λ_=>False) l' v'))->Own w y v S0->D5 S1 ls=some (S2,B) ->
   ∃g2,Ju F S S2 g g2 a w/\∃nf:Nat->Blk,AOF F S2 g2 w (y::B) (v::vs) nf/\∀c b,c<(y::B).length->nf c b->∃l' r,(l::ls)[c]?=some l'/\l'.CA=some r/\CP S r/\g.fp r b:=by
   intro r hlr y S0 S1 S2 g1 B hT1 I hS0 hdis hleaf hO J;have ⟨g2,hT2,nf,hT,hnf⟩:=ih (S:=S1) (S':=S2) (g:=g1) (cs:=B) (vs:=vs) hT1.inv hn' X (by intro c l' Q;have ⟨v',hv',hk1,hk2⟩:=hok (c+1) l' (by simpa using Q);have:=hleaf l' (A4 Q) v' hk1 hk2;exact⟨v',by simpa using hv',this.1,this.2⟩) J;have ⟨t1,t2,t3,t4,t5,t6⟩:=hT;have hTT:=hT1.trans hT2;have hS0':∀r' b,CP S2 r'->S0 b->¬g2.fp r' b:=by intro r' b H E Y;have hb1:=hT2.fp r' b Y;have hal1:=hT2.al r' H;by_cases hrr:r'=r;subst hrr;exact hdis b E hal1 hb1;exact h.dis r r' I (hT1.al r' hal1) (Ne.symm hrr) b (hS0 b E) (hT1.fp r' b hb1)
   refine⟨g2,hTT,λc=>match c with|0=>S0|c+1=>nf c,⟨by simpa using t1,?_,?_,?_,?_,?_⟩,?_⟩;intro c y' Z;cases c with|zero=>simp only[AN,AE]at Z;subst Z;exact⟨v,rfl,hO⟩|succ c=>exact t2 c y' (by simpa using Z)
   intro c b L E;cases c with|zero=>exact h.Hw r I b (hS0 b E)|succ c=>exact t3 c b (by simpa using L) E
   intro c r' b L H E;cases c with|zero=>exact hS0' r' b H E|succ c=>exact t4 c r' b (by simpa using L) H E
   intro c id L hid E;cases c with|zero=>rw[hTT.β]at E;exact h.F3 r id I (hTT.bx id hid) (hS0 _ E)|succ c=>exact t5 c id (by simpa using L) hid E
   have hcross:∀c b,c<B.length->S0 b->¬nf c b:=by intro c b L E Y;have ⟨_,r',_,_,H,hf⟩:=hnf c b L Y;by_cases hrr:r'=r;subst hrr;exact hdis b E H hf;exact h.dis r r' I (hT1.al r' H) (Ne.symm hrr) b (hS0 b E) (hT1.fp r' b hf)
   intro c c' b L hc' hne E;cases c with
   |zero=>
    cases c' with
    |zero=>exact(hne rfl).elim|succ c'=>exact hcross c' b (by simpa using hc') E
   |succ c=>
    cases c' with
    |zero=>exact λY=>hcross c b (by simpa using L) Y E|succ c'=>exact t6 c c' b (by simpa using L) (by simpa using hc') (by omega) E
   intro c b L E;cases c with
   |zero=>exact⟨l,r,rfl,hlr,I,hS0 b E⟩|succ c=>have ⟨l',r',Q,hlr',H,hf⟩:=hnf c b (by simpa using L) E;exact⟨l',r',by simpa using Q,hlr',hT1.al r' H,hT1.fp r' b hf⟩
  have stepO:∀(r:CN) (_:l.CA=some r) (x y:T) (S0:Blk) (S1:St) (B:List T),S.at r=some (.ow x)->(∀b,S0 b->g.fp r b)->Own w y v S0->D5 (S.out r) ls=some (S1,B) ->
   ∃g2,Ju F S S1 g g2 a w/\∃nf:Nat->Blk,AOF F S1 g2 w (y::B) (v::vs) nf/\∀c b,c<(y::B).length->nf c b->∃l' r,(l::ls)[c]?=some l'/\l'.CA=some r/\CP S r/\g.fp r b:=by
   intro r hlr x y S0 S1 B O hS0 hO J;refine step r hlr y S0 (S.out r) S1 g B (uJ h O).toG ⟨x,O⟩ hS0 (λb _ I=>absurd rfl (JY O I).1) ?_ hO J;intro l' _ v' hk1 hk2;refine⟨?_,λhr=>(hk2 hr).out O (by simp[hr])⟩;intro r' H I;have:=JY O I;exact(hk1 r' H this.2).out O (by rw[H];simpa using this.1)
  cases l with
  |t x=>
   simp only[D5]at G;split at G;cases G;rename_i htop;split at G;rename_i S1 B J;simp only[AE,BC]at G;obtain⟨rfl,rfl⟩:=G;have ⟨g1,htaken,nf,hT,hnf⟩:=ih (S:=S) (S':=S1) (g:=g) (cs:=B) (vs:=vs) h hn' X (by intro c l' Q;have ⟨v',hv',hk⟩:=hok (c+1) l' (by simpa using Q);exact⟨v',by simpa using hv',hk⟩) J;have ⟨t1,t2,t3,t4,t5,t6⟩:=hT;have hsc:Sc x v:=hnone rfl;refine⟨g1,htaken,λc=>match c with|0=>λ_=>False|c+1=>nf c,⟨by simpa using t1,?_,?_,?_,?_,?_⟩,?_⟩;intro c y' Z;cases c with|zero=>simp only[AN,AE]at Z;subst Z;exact⟨v,rfl,.sc hsc (hsc.one (by simpa using htop)) λ_ h=>h⟩|succ c=>exact t2 c y' (by simpa using Z)
   intro c b L E;cases c with|zero=>exact E.elim|succ c=>exact t3 c b (by simpa using L) E
   intro c r' b L H E;cases c with|zero=>exact E.elim|succ c=>exact t4 c r' b (by simpa using L) H E
   intro c id L hid E;cases c with|zero=>exact E.elim|succ c=>exact t5 c id (by simpa using L) hid E
   intro c c' b L hc' hne E;cases c with
   |zero=>exact E.elim|succ c=>
    cases c' with
    |zero=>exact λY=>Y.elim|succ c'=>exact t6 c c' b (by simpa using L) (by simpa using hc') (by omega) E
   intro c b L E;cases c with|zero=>exact E.elim|succ c=>exact hnf c b (by simpa using L) E
   cases G
  |al r sub=>
   simp only[D5]at G;split at G;rename_i x O;split at G;rename_i S1 B J;simp only[AE,BC]at G;obtain⟨rfl,rfl⟩:=G;have ⟨x',u,hx',hu,hsub⟩:=hroot r rfl ⟨x,O⟩;rw[O]at hx';cases hx';have hown:Own w x u (g.fp r):=by have ⟨u',hu',hk⟩:=h.C6 r _ O;rw[hu]at hu';cases hu';exact hk
   have ⟨S0,hS0,hO⟩:=TV hown hsub;exact stepO r rfl x _ S0 S1 B O hS0 hO J;cases G;cases G
  |vw s e xs=>
   cases s with
   |old k=>simp[D5]at G|own r p=>
    cases p with
    |none=>simp only[D5]at G;split at G;rename_i x O;split at G;rename_i S1 B J;simp only[AE,BC]at G;obtain⟨rfl,rfl⟩:=G;have ⟨_,⟨S0,hS0,hO⟩,_⟩:=hroot r rfl ⟨x,O⟩;exact stepO r rfl x _ S0 S1 B O hS0 hO J;cases G;cases G
    |some q=>have ⟨i,j⟩:=q;simp only[D5]at G;split at G;cases G;rename_i hon;split at G;rename_i S1 hpl;split at G;rename_i S2 B J;simp only[AE,BC]at G;obtain⟨rfl,rfl⟩:=G;have ⟨e0,rows,O,_⟩:=QA hpl;have ⟨_,_,hat⟩:=hroot r rfl ⟨_,O⟩;have ⟨S0,g1,q1,q2,q3,q4,q5,q6,q7⟩:=h.pull hpl hat;refine step r rfl _ S0 S1 S2 g1 B q1 q7 q3 (λb E _=>q4 b E) ?_ q2 J;intro l' Q v' hk1 hk2;have hne:=zK (by simpa using hon) l' Q;exact⟨λr' H I=>(hk1 r' H (q1.al r' I)).off hne q6 q5 q1.rv q1.β,λhr=>(hk2 hr).off hne q6 q5 q1.rv q1.β⟩;cases G;cases G
  |ow x=>exact(hn x (by simp)).elim|und=>simp[D5]at G|ep _ _ _=>simp[D5]at G|vp s cs=>simp[D5]at G|bp _ _=>simp[D5]at G|fn _ _=>simp[D5]at G
end
def MG:Value->Option Nat|.pointer (some a)=>some a.block|.slice (some a) _ _=>some a.block|_=>none
def AOD(v:Value)(w w1:World):Prop:=∀b,MG v=some b->w1.heap[b]?=w.heap[b]?
def Rd(F:Fix)(S:St)(g:Gh)(w:World)(e:Ent)(v:Value):Prop:=
 ∃vs,v=mkV e.sh vs/\vs.length=e.cs.length/\(∀x,AS.ow x∉e.cs)/\∀(c:Nat) (l:AS),e.cs[c]?=some l->∃u,vs[c]?=some u/\Bz F S g w (λ_=>False) l u
section
variable{F:Fix}{S S':St}{g g':Gh}{a a':Act}{w w':World}
variable{l:AS}{cs:List AS}{d:Nat}{v:Value}
theorem Xy s  cs  o c :(T9 s o cs)[c]?=(cs[c]?).map (AS.ali s (o+c)):=by
 induction cs generalizing o c with
 |nil=>simp[T9]|cons l ls e=>grind[T9,List.getElem?_cons_succ]
theorem AAX s  cs  o :(T9 s o cs).length=cs.length:=by
 induction cs generalizing o with
 |nil=>rfl|cons l ls c=>simp[T9,c]
theorem AOK{s c}{x}:l.ali s c≠.ow x:=by cases l<;>simp[AS.ali]
theorem AWj{a b}(h:AWi a b=true):a=b:=by cases a<;>cases b<;>simp_all[AWi]
theorem YI{x}(h:Sx v x=true):Sc x v:=by unfold Sx at h;split at h;rename_i y c;have:=AWj h;subst this;unfold tOf at c;split at c<;>simp at c<;>subst c<;>simp[Sc];cases h
theorem AOJ{r:CN}{s c:Nat}(j:r=.tmp s c)(q:S.at r=some l)(y:g.rv r=some v)(h:Bz F S g w (g.fp r) l v) :
 Bz F S g w (λ_=>False) (l.ali s c) v:=by
 subst j;by_cases e:∃x,l=.ow x;obtain⟨x,rfl⟩:=e;exact⟨x,v,q,y,rfl⟩;have:l.ali s c=l:=by cases l<;>first|rfl|exact(e ⟨_,rfl⟩).elim
 grind[Bz.any]
theorem QE(h:Inv F S g a w){o}{x}{e}(j:S.rd x=some e)(q:CH o x=true)(Z:∀p∈CK o x,Mt F.A F.P p.1 p.2):Rd F S g w e (a.eval o):=by
 match o,x,q with
 |.tmp t,.tmp t',q=>
  simp[CH,beq_iff_eq]at q;subst q;simp[St.rd]at j;split at j;rename_i O E;cases j;have ⟨_,X,Y⟩:=h.tms t O E;refine⟨g.tv t,X,by simp[AAX,Y],?_,?_⟩;intro x hx;have ⟨c,I⟩:=B0 hx;rw[Xy,AM]at I;have ⟨l,_,y⟩:=I;exact AOK y;intro c l y;rw[Xy,AM]at y;obtain⟨l0,G,rfl⟩:=y;have B:S.at (.tmp t c)=some l0:=by simp[St.at,E,G]
  have ⟨v,L,H⟩:=h.C6 _ _ B;exact⟨v,L,by simpa using AOJ rfl B L H⟩;cases j
 |.const v,.k x,q=>
  simp[St.rd,AE]at j;subst j;refine⟨[v],rfl,rfl,by cases x<;>simp[tE],?_⟩;intro c l y;cases c with
  |zero=>
   simp[AN,AE]at y;subst y;refine⟨v,rfl,?_⟩;simp[CH,DJ]at q;rcases q with q|q;have J:=YI q;cases x<;>first|exact J|exact J.elim
   unfold AKe at q;split at q;exact View.nl;cases q
  |succ c=>simp at y
 |.func f,.fn Q,q=>
  simp[St.rd,AE]at j;subst j;refine⟨[.func (.func f) #[] #[]],rfl,rfl,by simp,?_⟩;intro c l y;cases c with
  |zero=>simp[AN,AE]at y;subst y;exact⟨_,rfl,f,#[],rfl,Z (f,Q) (by simp[CK]),rfl,by simp⟩
  |succ c=>simp at y
theorem Rd.cells{e}(h:Rd F S g w e v):∃vs,v=mkV e.sh vs/\Cells F S g w e.cs vs λ_ _=>False:=by have ⟨vs,c,j,q,y⟩:=h;exact⟨vs,c,Cells.free j y q⟩
theorem Cells.one(c:∀x,l≠.ow x)(h:Bz F S g w (λ_=>False) l v):Cells F S g w [l] [v] λ_ _=>False:=by grind[Cells.free,List.getElem?_cons_zero,Option.some.injEq,List.mem_singleton]
theorem MX(h:Inv F S g a w){x}(c:d<F.N)(e:S.Eo d ⟨.one,[.t x]⟩=some S')(j:Sc x v):∃g',Inv F S' g' (a.put (some d) v) w:=
 h.Eo (vs:=[v]) e c (Cells.one (by simp) j)
theorem SY(h:Inv F S g a w)(c:d<F.N)(j:S.Eo d ⟨.one,[l]⟩=some S')(e:∀x,l≠.ow x)(q:Bz F S g w (λ_=>False) l v):∃g',Inv F S' g' (a.put (some d) v) w:=
 h.Eo (vs:=[v]) j c (Cells.one e q)
theorem Sd(h:Inv F S g a w){o}{x}{t}(c:S.sc x=some t)(I:CH o x=true)(H:∀p∈CK o x,Mt F.A F.P p.1 p.2):Sc t (a.eval o):=by
 unfold St.sc at c;cases j:S.rd x with
 |none=>simp[j,AHS]at c|some e=>
  have ⟨vs,E,J,L,G⟩:=QE h j I H;rw[j]at c;unfold AHS at c;split at c;next O q=>simp[AE]at q c;subst q c;have ⟨u,B,y⟩:=G 0 _ rfl;rw[E];cases vs with|nil=>simp at B|cons v vs=>simp[AN,AE]at B;subst B;exact y
  cases c
theorem VF(h:Inv F S g a w){o}{x}{n}(c:S.nat x=some n)(q:CH o x=true)(j:∀p∈CK o x,Mt F.A F.P p.1 p.2):∃k,a.eval o=.int k n:=by unfold St.nat at c;split at c;rename_i k y e;cases c;exact⟨k,Sd h e q j⟩;cases c
theorem HL(h:Inv F S g a w){o}{x}(c:S.one x=some l)(H:CH o x=true)(G:∀p∈CK o x,Mt F.A F.P p.1 p.2) :
 Bz F S g w (λ_=>False) l (a.eval o)/\∀x,l≠.ow x:=by
 unfold St.one at c;split at c;next l' e=>cases c;have ⟨vs,y,J,B,E⟩:=QE h e H G;have ⟨u,q,j⟩:=E 0 _ rfl;refine⟨?_,λx I=>B x (by simp[I])⟩;rw[y];cases vs with|nil=>simp at q|cons v vs=>simp[AN,AE]at q;subst q;exact j
 cases c
theorem AKh(h:Inv F S g a w){o:Operand}{x:Opd}(y:d<F.N)(c:ev (.mv d x) S=some S')(G:CH o x=true)(E:∀p∈CK o x,Mt F.A F.P p.1 p.2) :
 ∃g',Inv F S' g' (a.put (some d) (a.eval o)) w:=by simp[ev]at c;split at c;rename_i e B;have ⟨vs,j,q⟩:=(QE h B G E).cells;rw[j];exact h.Eo c y q;cases c
theorem ag(h:Inv F S g a w){e:Ent}(G:Rd F S g w e v)(c:M8 S e.cs=some (S',cs)) :
 ∃vs nf,v=mkV e.sh vs/\Inv F S' g a w/\Cells F S' g w cs vs nf/\cs.length=e.cs.length:=by have ⟨vs,y,q,B,E⟩:=G;unfold M8 at c;split at c;rename_i j;have ⟨t1,_,nf,t2,_⟩:=AVa h B q E j c;exact⟨vs,nf,y,t1.inv,t2,t2.1.symm.trans q⟩;cases c
theorem AYj(h:Inv F S g a w){e:Ent}(j:Rd F S g w e v){x:Opd}(c:uo S x e.cs=some (S',cs)) :
 ∃vs nf,v=mkV e.sh vs/\Inv F S' g a w/\Cells F S' g w cs vs nf/\cs.length=e.cs.length:=by unfold uo at c;split at c;split at c;cases c;have ⟨vs,q,y⟩:=j.cells;grind;exact ag h j c;exact ag h j c
theorem ATX(h:Inv F S g a w){o:Operand}{x:Opd}(y:d<F.N)(c:ev (.as d x) S=some S')(G:CH o x=true)(E:∀p∈CK o x,Mt F.A F.P p.1 p.2) :
 ∃g',Inv F S' g' (a.put (some d) (a.eval o)) w:=by simp[ev]at c;split at c;rename_i e B;split at c;rename_i S1 cs H;have ⟨vs,nf,j,hi,q,_⟩:=ag h (QE h B G E) H;rw[j];exact hi.Eo (e:=⟨e.sh,cs⟩) c y q;cases c;cases c
theorem zH(h:Inv F S g a w){oc oa ob:Operand}{c x y:Opd}(Q:d<F.N)(e:ev (.pick d c x y) S=some S')(L:CH oc c=true)(I:CH oa x=true)(J:CH ob y=true)
 (H:∀p∈CK oc c,Mt F.A F.P p.1 p.2) (E:∀p∈CK oa x,Mt F.A F.P p.1 p.2) (G:∀p∈CK ob y,Mt F.A F.P p.1 p.2) :
 ∃t g',a.eval oc=.bool t/\Inv F S' g' (a.put (some d) (if t then a.eval oa else a.eval ob)) w:=by
 simp[ev]at e;split at e;next t ea eb Y q B=>refine⟨t,?_⟩;have Z:a.eval oc=.bool t:=Sd h Y L H;cases t with
 |true=>obtain⟨vs,O,j⟩:=(QE h q I E).cells;obtain⟨g',X⟩:=h.Eo (by simpa using e) Q j;grind
 |false=>obtain⟨vs,O,j⟩:=(QE h B J G).cells;obtain⟨g',X⟩:=h.Eo (by simpa using e) Q j;exact⟨g',Z,by simpa[O] using X⟩
 cases e
theorem ADT(h:Inv F S g a w){fp}{l}{v}(q:Bz F S g w fp l v)(L:l≠.t .top)(O:l≠.und):v.oneCell'=true:=by
 match l,q with
 |.t x,q=>exact Sc.one q (by cases x<;>first|rfl|exact(L rfl).elim)
 |.und,_=>exact(O rfl).elim|.ow x,q=>exact Own.one q|.al r sub,⟨x,u,y,H,I⟩=>have ⟨X,B,G⟩:=h.C6 r _ y;rw[H]at B;cases B;have ⟨_,_,E⟩:=TV G I;exact E.one
 |.ep r i j,⟨e,xs,blk,off,len,cap,y,H,I,Q⟩=>subst Q;rfl|.vw (.own r _) e xs,⟨_,⟨S0,_,E⟩,_⟩=>exact E.one|.vw (.old k) e xs,q=>cases q with|sc h=>exact h.elim|sl=>rfl|nl=>rfl
 |.vp (.own r _) cs,⟨_,a,c,f,y,_⟩=>subst y;rfl|.vp (.old k) cs,⟨a,c,y,_⟩=>subst y;rfl|.bp id off,q=>have J:v=_:=q;subst J;rfl|.fn f caps,⟨n,cv,y,_⟩=>subst y;rfl
end
section
variable{P:Program}{w:World}
variable{fs:Array Field}{t:TypeId}{v:Value}
theorem zY{i}(hi:P.info? t=some i)(c:i.zero=some v) :
 (Instr.alloc t true (.tuple #[])).run P w=.ok (.pointer (some ⟨w.heap.size,0,none⟩)) (World.push w (.cells v.cells t (0,0))):=by simp[Instr.alloc,zeroValue,typeInfo,hi,c,newVar,newRow,go_sem];rfl
theorem AHQ:(Instr.box t v).run P w=.ok (.pointer (some ⟨w.heap.size,0,none⟩)) (World.push w (.cells v.cells t (0,0))):=by simp[Instr.box,newVar,newRow,go_sem];rfl
theorem IA{i}(hi:P.info? t=some i):(Go.sizeOf t).run P w=.ok i.size w:=by simp[Go.sizeOf,typeInfo,hi,go_sem]
theorem zc{b o}{d}(h:P.underlying t=some d)(q:∀fs,d≠.struct fs)(c:∀n e,d≠.array n e)(j:w.cell? ⟨b,o,none⟩=some v) :
 (Instr.loadAt t (.pointer (some ⟨b,o,none⟩))).run P w=.ok v w:=by simp[Instr.loadAt,Instr.sureAddr,loadVar,isAgg,run_underlying h,go_sem];cases d<;>simp_all[go_sem]
theorem aI{b o:Nat}{i:TypeInfo}{vs:List Value}(y:P.underlying t=some (.struct fs))(hi:P.info? t=some i)(q:vs.length=i.size)
 (c:∀(j:Nat) v,vs[j]?=some v->w.cell? ⟨b,o+j,none⟩=some v) :
 (Instr.loadAt t (.pointer (some ⟨b,o,none⟩))).run P w=.ok (.agg vs.toArray) w:=by have h:=run_loadCells_list (P:=P) (w:=w) ⟨b,o,none⟩ vs (by intro j v e;have:=c j v e;unfold Addr.add;split;subst_vars;simpa using this;exact this);simp[Instr.loadAt,Instr.sureAddr,loadVar,isAgg,run_underlying y,IA hi,<-q,go_sem];unfold loadCells at h;simp[h,go_sem]
theorem aK{b o}{i}{cur}{E}{e}(hi:P.info? t=some i)(B:v.cells.size=i.size)(y:F4 w b cur E e)
(j:o+v.cells.size<=cur.size)(q:∀c∈v.cells.toList,c.oneCell'=true) :
 (Instr.storeAt t (.pointer (some ⟨b,o,none⟩)) v).run P w=.ok () (w.setRow b (cur.toList.take o++v.cells.toList++cur.toList.drop (o+v.cells.size)).toArray):=by have h:=GI (P:=P) (o:=o) (vs:=v.cells.toList) y (by simpa using j) q;simp only[Bi]at h;unfold Instr.storeAt storeVar;generalize v.cells=cs at *;simp[Instr.sureAddr,IA hi,B,h,go_sem]
theorem HV b o n :(⟨b,o,none⟩:Addr).add n=⟨b,o+n,none⟩:=by grind[Addr.add]
theorem oM{b o f:Nat}{x:Field}{i:TypeInfo}(e:P.underlying t=some (.struct fs))(c:fs[f]?=some x)(hi:P.info? x.type=some i)(h:0<i.size) :
 (Instr.fieldAt t (.pointer (some ⟨b,o,none⟩)) f).run P w=.ok (.pointer (some ⟨b,o+x.offset,none⟩)) w:=by
 have:i.size≠0:=by omega
 simp[Instr.fieldAt,Instr.sureAddr,fieldPlace,run_underlying e,c,IA hi,this,HV,go_sem]
theorem oN{el:TypeId}{b o len cap:Nat}{k:IntKind}{n:Int}{i:TypeInfo}(h:P.underlying t=some (.slice el))(hi:P.info? el=some i)(c:0<=n)(e:n<len) :
 (Instr.indexAt t (.slice (some ⟨b,o,none⟩) len cap) (.int k n)).run P w=.ok (.pointer (some ⟨b,o+n.toNat*i.size,none⟩)) w:=by simp[Instr.indexAt,asIntOf,run_underlying h,IA hi,c,e,HV,go_sem]
theorem zb{s:List UInt8}{k}{n:Int}(h:P.underlying t=some .string)(e:0<=n)(j:n<s.length) :
 (Instr.index t (.string ⟨s.toArray⟩) (.int k n)).run P w=.ok (.int .u8 (s.getD n.toNat 0).toNat) w:=by
 have c:n.toNat<s.length:=by omega
 have:(⟨s.toArray⟩:ByteArray)[n.toNat]?=some s[n.toNat]:=by grind[ByteArray.size,ByteArray.getElem_eq_getElem_data]
 simp[Instr.index,asIntOf,run_underlying h,e,List.getD,c,go_sem];rfl
end
section
variable{F:Fix}{S S':St}{g g':Gh}{a a':Act}{w w':World}
variable{fs:Array Field}{op:BinOp}{k:IntKind}{as zs:List T}{d n:Nat}{oi ox:Operand}{xhi xlo:Option Opd}{P:Program}{r:T}{el t:TypeId}{v:Value}
theorem AE4{vs}{zs}(h:Vl vs zs=true):vs.length=zs.length/\∀(c:Nat) x,zs[c]?=some x->∃v,vs[c]?=some v/\Sc x v:=by
 induction vs generalizing zs with
 |nil=>cases zs<;>simp_all[Vl]
 |cons v vs e=>
  cases zs with
  |nil=>simp[Vl]at h|cons z zs=>grind[Vl,List.getElem?_cons_zero,Option.some.injEq,YI]
theorem zeroCells(h:dX F.P t zs=true):∃i v,F.P.info? t=some i/\i.zero=some v/\i.size=zs.length/\v.cells.toList.length=zs.length /\
 Cells F S g w (zs.map .t) v.cells.toList λ_ _=>False:=by unfold dX at h;split at h;rename_i i hi;simp[AD,beq_iff_eq]at h;have ⟨e,y⟩:=h;split at e;rename_i v H;have ⟨j,B⟩:=AE4 e;refine⟨i,v,hi,H,y,j,Cells.free (by simpa using j) ?_ (by simp)⟩;intro c l q;rw[A0,AM]at q;obtain⟨x,I,rfl⟩:=q;have ⟨u,G,E⟩:=B c x I;exact⟨u,G,E⟩;cases e;cases h
theorem AWu(q:AS->Bool)(c:∀x,q (.t x)=false)(zs:List T):FD q (zs.map .t)=zs.map .t:=by
 induction zs with
 |nil=>rfl|cons z zs e=>simp[FD,c,e]
theorem na(h:Inv F S g a w)(y:d<F.N)(c:ev (.alloc d zs) S=some S')(G:dX F.P t zs=true) :
 ∃v w' g',(Instr.alloc t true (.tuple #[])).run F.P w=.ok v w'/\Inv F S' g' (a.put (some d) v) w'/\∀b,b<w.heap.size->w'.heap[b]?=w.heap[b]?:=by simp only[ev]at c;split at c;cases c;next B=>cases c;have ⟨i,v,hi,E,_,_,q⟩:=zeroCells (F:=F) (S:=S) (g:=g) (w:=w) G;have ⟨g',e⟩:=h.ATM y B q t;rw[AWu _ (λ_=>rfl)]at e;refine⟨_,_,g',zY hi E,?_,λb j=>Fe j⟩;rw[G9]at e;exact e
theorem oT(h:Inv F S g a w){e:Ent}{cs}{vs}{nf}(J:Cells F S g w cs vs nf)(Q:cs.length=e.cs.length)(E:Hz e.sh e.cs.length=true)(H:I6 cs=false) :
 (mkV e.sh vs).cells.toList=vs/\∀v∈vs,v.oneCell'=true:=by
 have j:∀v∈vs,v.oneCell'=true:=by
  intro v X;have ⟨c,q⟩:=B0 X;have y:c<cs.length:=by have:=(AO.1 q).1;rw[J.1]at this;exact this
  have ⟨v',I,L⟩:=J.2.1 c cs[c] (by simp[y]);rw[q]at I;cases I;have B:∀(ls:List AS),I6 ls=false->∀l∈ls,l≠.t .top/\l≠.und:=by
   intro ls;induction ls with
   |nil=>simp|cons x ls Y=>
    intro H l O;cases Ae.1 O with
    |inl e=>subst e;constructor<;>(rintro rfl;simp[I6]at H)
    |inr e=>exact Y (by unfold I6 at H;split at H<;>simp_all) l e
  have ⟨Z,k2⟩:=B cs H _ (List.getElem_mem y);exact ADT h L Z k2
 refine⟨?_,j⟩;cases G:e.sh with
 |one=>
  rw[G]at E;simp[Hz,beq_iff_eq]at E;have:vs.length=1:=by rw[J.1,Q,E]
  match vs,this,j with
  | [v],_,j=>
   have:=j v (by simp);simp[mkV,List.headD_cons];cases v<;>first|rfl|(simp[Value.oneCell']at this)
 |agg=>simp[mkV,Value.cells]|_=>rw[G]at E;simp[Hz]at E
theorem AG4(h:Inv F S g a w){t:TypeId}{o:Operand}{x:Opd}(I:d<F.N)(c:ev (.box d x) S=some S')(Q:CH o x=true)(O:∀p∈CK o x,Mt F.A F.P p.1 p.2) :
 ∃v w' g',(Instr.box t (a.eval o)).run F.P w=.ok v w'/\Inv F S' g' (a.put (some d) v) w'/\∀b,b<w.heap.size->w'.heap[b]?=w.heap[b]?:=by
 simp[ev]at c;split at c;rename_i e J;split at c;rename_i S1 cs Y;split at c;cases c;rename_i hcond;simp[not_or,Es,Bool.not_eq_false]at hcond;have ⟨X,q,B⟩:=hcond;cases c;have ⟨vs,nf,G,hi,E,j⟩:=AYj h (QE h J Q O) Y;have ⟨g',L⟩:=hi.ATM I X E t;refine⟨_,_,g',AHQ,?_,λb H=>Fe H⟩;have y:=(oT hi E j B q).1;have:(a.eval o).cells=vs.toArray:=by rw[G,<-G9 (xs:=(mkV e.sh vs).cells),y]
 rw[this];exact L;cases c;cases c
def ALR(b c:Nat):AS->AS|.ow _=>.al (.cell b c) none|l=>l
theorem av b o  l  ls :Ss b o (l::ls)=ALR b o l::Ss b (o+1) ls:=by cases l<;>rfl
theorem AAV b  cs  o c :(Ss b o cs)[c]?=(cs[c]?).map (ALR b (o+c)):=by
 induction cs generalizing o c with
 |nil=>simp[Ss]|cons l ls e=>grind[av,List.getElem?_cons_succ]
theorem AV3{b c}{l}{x}:ALR b c l≠.ow x:=by cases l<;>simp[ALR]
theorem Xb{m c}(h:(List.range n)[m]?=some c):m<n/\m=c:=by grind[List.getElem?_eq_some_iff]
theorem AAW b  cs  o :(Ss b o cs).length=cs.length:=by
 induction cs generalizing o with
 |nil=>rfl|cons l ls c=>rw[av];simp[c]
theorem nH r  i  xs  j m :(K4 r i j xs)[m]?=(xs[m]?).map (MR (.own r (some (i,j+m)))):=by
 induction xs generalizing j m with
 |nil=>simp[K4]|cons x xs c=>grind[K4,List.getElem?_cons_succ]
theorem nI r  i  xs  j :(K4 r i j xs).length=xs.length:=by
 induction xs generalizing j with
 |nil=>rfl|cons x xs c=>simp[K4,c]
theorem Qs(h:Inv F S g a w){p:AS}{v:Value}(hp:Bz F S g w (λ_=>False) p v){n:Nat}{ls:List AS}(H:S.load n p=some ls) :
 ∃b o vs,v=.pointer (some ⟨b,o,none⟩)/\vs.length=n/\ls.length=n/\(∀(j:Nat) u,vs[j]?=some u->w.cell? ⟨b,o+j,none⟩=some u)/\Cells F S g w ls vs λ_ _=>False:=by
 match p,hp with
 |.bp id off,hp=>
  have hp':v=.pointer (some ⟨g.β id,off,none⟩):=hp;subst hp';simp[St.load]at H;split at H;rename_i ls0 Q;split at H;rename_i hle;cases H;have ⟨⟨E,hE⟩,hlen⟩:=h.bxs id ls0 Q;have hgv:∀j u,(((g.bv id).drop off).take n)[j]?=some u->j<n/\(g.bv id)[off+j]?=some u:=by intro j u J;rw[CE]at J;split at J;rename_i hj;exact⟨hj,by rwa[Bw]at J⟩;cases J
  refine⟨g.β id,off,((g.bv id).drop off).take n,rfl,by simp;omega,by simp[AAW];omega,?_,Cells.free (by simp[AAW];omega) ?_ ?_⟩;intro j u J;have ⟨_,J⟩:=hgv j u J;simp[World.cell?,hE];simpa using J;intro c l hlc;rw[AAV,AM]at hlc;obtain⟨l0,I,rfl⟩:=hlc;rw[CE]at I;split at I;rename_i hc;rw[Bw]at I;have O:S.at (.cell id (off+c))=some l0:=by simp[St.at,Q,I]
  have ⟨u,J,hok⟩:=h.C6 _ _ O;refine⟨u,by rw[CE,AY hc,Bw];exact J,?_⟩;by_cases Z:∃x,l0=.ow x;obtain⟨x,rfl⟩:=Z;exact⟨x,u,O,J,rfl⟩;have:ALR id (off+c) l0=l0:=by cases l0<;>first|rfl|exact(Z ⟨_,rfl⟩).elim
  rw[this];exact Bz.any (λx q=>Z ⟨x,q⟩) hok;cases I;intro x q;have ⟨c,hc⟩:=B0 q;rw[AAV,AM]at hc;have ⟨l0,_,I⟩:=hc;exact AV3 I;cases H;cases H
 |.ep r i j,⟨e,xs,blk,off,len,cap,h1,h2,h3,h4⟩=>
  subst h4;simp[St.load,h1]at H;split at H;rename_i row X;split at H;next hle=>cases H;have ⟨u,J,hown⟩:=h.C6 r _ h1;rw[h2]at J;cases J;cases hown with
  |sc Y _ _=>exact Y.elim|sl c f k1 k2 k3 k4 k5 k6 k7 k8 k9 k10=>
   rename_i arr E;have O:∀(m:Nat) x,((row.drop j).take n)[m]?=some x->m<n/\at2 xs i (j+m)=some x:=by intro m x q;rw[CE]at q;split at q;rename_i B;rw[Bw]at q;exact⟨B,by simp[at2,X,q]⟩;cases q
   refine⟨blk,off+i*e+j,(List.range n).map λm=>c i (j+m),rfl,by simp,by simp[nI];omega,?_,Cells.free (by simp[nI];omega) ?_ ?_⟩;intro m u B;rw[A0,AM]at B;obtain⟨m',L,rfl⟩:=B;obtain⟨G,rfl⟩:=Xb L;have q:∃x,at2 xs i (j+m)=some x:=by
    have:j+m<row.length:=by omega
    exact⟨row[j+m],by simp[at2,X,this]⟩
   have ⟨x,q⟩:=q;have:=k6 i (j+m) x q;rw[k4.cell,<-this];congr 1;omega;intro m l B;rw[nH,AM]at B;obtain⟨x,q,rfl⟩:=B;have ⟨G,q⟩:=O m x q;refine⟨c i (j+m),by simp[G],?_⟩;have hO:=k7 i (j+m) x q;cases x with
   |sl e' ys=>refine⟨⟨_,h1⟩,⟨f i (j+m),λb hb=>(k10 b).2 (.inr ⟨i,j+m,_,q,hb⟩),hO⟩,e,xs,blk,off,len,cap,h1,h2,q,(k10 blk).2 (.inl rfl),?_⟩;rw[k4.cell];exact k6 i (j+m) _ q
   |mp ks=>trivial|_=>cases hO with|sc Y _ _=>exact Y
   intro x q;have ⟨m,B⟩:=B0 q;rw[nH,AM]at B;have ⟨y,_,hy⟩:=B;cases y<;>simp[MR]at hy
  cases H;cases H
 |.vp s cs,hp=>
  simp only[St.load]at H;split at H;rename_i hle;cases H;have hno:∀x,AS.ow x∉(cs.take n).map (MR s.up):=by intro x q;simp only[Ef]at q;have ⟨y,_,hy⟩:=q;cases y<;>simp[MR]at hy
  cases s with
  |own r=>
   have ⟨hal,ad,c,f,q1,q2,q3⟩:=hp;subst q1;have ⟨b,o,sp⟩:=ad;simp at q2;subst q2;refine⟨b,o,(List.range n).map c,rfl,by simp,by simp;omega,?_,Cells.free (by simp;omega) ?_ hno⟩;intro m u B;rw[A0,AM]at B;obtain⟨m',L,rfl⟩:=B;obtain⟨G,rfl⟩:=Xb L;exact(q3 m cs[m] (by simp[show m<cs.length from by omega])).2.1;intro m l B;rw[A0,AM]at B;obtain⟨x,q,rfl⟩:=B;rw[CE]at q;split at q;next G=>have ⟨p1,p2,p3,p4⟩:=q3 m x q;refine⟨c m,by simp[G],?_⟩;cases x with
   |sl e' ys=>exact⟨hal,⟨f m,p3,p4⟩,trivial⟩|mp ks=>trivial|_=>cases p4 with|sc Y _ _=>exact Y
   cases q
  |old k=>
   have ⟨ad,c,q1,q2,q3⟩:=hp;subst q1;have ⟨b,o,sp⟩:=ad;simp at q2;subst q2;refine⟨b,o,(List.range n).map c,rfl,by simp,by simp;omega,?_,Cells.free (by simp;omega) ?_ hno⟩;intro m u B;rw[A0,AM]at B;obtain⟨m',L,rfl⟩:=B;obtain⟨G,rfl⟩:=Xb L;exact(q3 m cs[m] (by simp[show m<cs.length from by omega])).2.1;intro m l B;rw[A0,AM]at B;obtain⟨x,q,rfl⟩:=B;rw[CE]at q;split at q;next G=>have ⟨p1,p2,p3⟩:=q3 m x q;refine⟨c m,by simp[G],?_⟩;cases x with
   |sl e' ys=>exact p3|mp ks=>trivial|_=>cases p3 with|sc Y=>exact Y
   cases q
  cases H
theorem ATb(h:Inv F S g a w){n:Option Nat}{o:Operand}{x:Opd}(O:d<F.N)(c:ev (.ld d n x) S=some S')(y:Jn F.P t n=true)(X:CH o x=true)(Q:∀p∈CK o x,Mt F.A F.P p.1 p.2) :
 ∃v g',(∀w1,AOD (a.eval o) w w1->(Instr.loadAt t (a.eval o)).run F.P w1=.ok v w1)/\Inv F S' g' (a.put (some d) v) w:=by
 simp[ev]at c;split at c;rename_i p Y;split at c;rename_i ls H;obtain⟨b,o',vs,Z,J,h2,B,L⟩:=Qs h (HL h Y X Q).1 H;rw[Z];have B:∀w1,AOD (.pointer (some ⟨b,o',none⟩)) w w1->∀(j:Nat) u,vs[j]?=some u->w1.cell? ⟨b,o'+j,none⟩=some u:=λw1 q j u E=>(KA (q b rfl)).trans (B j u E);unfold Jn at y;split at y;next dsc i E hi=>cases n with
 |some k=>
  simp[AD,beq_iff_eq]at y;obtain⟨I,hk⟩:=y;obtain⟨fs,rfl⟩:∃fs,dsc=.struct fs:=by cases dsc<;>simp[SE]at I;exact⟨_,rfl⟩
  obtain⟨g',G⟩:=h.Eo (e:=⟨.agg,ls⟩) (by simpa[shN] using c) O L;exact⟨_,g',λw1 q=>aI E hi (by simp[Dx]at J;omega) (B w1 q),by simpa[mkV] using G⟩
 |none=>
  simp[AD,beq_iff_eq,BE]at y;match vs,J with
  | [u],_=>obtain⟨g',G⟩:=h.Eo (e:=⟨.one,ls⟩) (by simpa[shN] using c) O L;refine⟨u,g',λw1 q=>zc E ?_ ?_ (by simpa using B w1 q 0 u rfl),by simpa[mkV] using G⟩;rintro fs rfl;simp[RO]at y;rintro n e rfl;simp[RO]at y
 cases y;cases c;cases c
theorem fw{xs}{i:Nat}{row':List T}(hi:i<xs.length)(c e:Nat):at2 (xs.set i row') c e=if c=i then row'[e]? else at2 xs c e:=by grind[at2]
theorem AAA{e i j:Nat}{xs:List (List T)}{row:List T}{ts:List T}{vs:List Value}{nf:Nat->Blk}{blk off len cap:Nat}{arr:Array Value}{E:TypeId}{fp:Blk}
 {c:Nat->Nat->Value} {f:Nat->Nat->Blk} (k1:len=xs.length) (k2:len<=cap) (k3:∀row∈xs,row.length=e) (k4:F4 w blk arr E e) (k5:off+cap*e<=arr.size)
 (k6:∀i j x,at2 xs i j=some x->arr[off+i*e+j]?=some (c i j)) (k7:∀i j x,at2 xs i j=some x->Own w x (c i j) (f i j)) (k8:∀i j x,at2 xs i j=some x->¬f i j blk)
 (k9:∀i j x y q x',at2 xs i j=some x->at2 xs y q=some x'->(i=y->j≠q)->∀b,f i j b->¬f y q b) (k10:∀b,fp b↔b=blk\/∃i j x,at2 xs i j=some x/\f i j b)
 (J:xs[i]?=some row) (hle:j+ts.length<=row.length) (hlen:vs.length=ts.length) (hown:∀(m:Nat) x,ts[m]?=some x->∃v,vs[m]?=some v/\Own w x v (nf m))
 (O:∀m b,m<ts.length->nf m b->¬fp b) (hnn:∀m m' b,m<ts.length->m'<ts.length->m≠m'->nf m b->¬nf m' b) :
 ∃fp':Blk,Own (w.setRow blk (arr.toList.take (off+i*e+j)++vs++arr.toList.drop (off+i*e+j+vs.length)).toArray) (.sl e (xs.set i (ES row j ts))) (.slice (some ⟨blk,off,none⟩) len cap) fp' /\
  (∀b,fp' b->fp b\/∃m,m<ts.length/\nf m b):=by
 have hi:i<xs.length:=(AO.1 J).1;have hrl:row.length=e:=k3 row (A4 J);have hmul:(i+1)*e<=cap*e:=Ap _ (by omega);rw[Bc]at hmul;have Y:off+i*e+j+vs.length<=arr.size:=by omega
 have X:fp blk:=(k10 blk).2 (.inl rfl);have hset:∀m,(ES row j ts)[m]?=if j<=m/\m<j+ts.length then ts[m-j]? else row[m]?:=λm=>Gu row j ts hle m
 have I:∀y q x,at2 (xs.set i (ES row j ts)) y q=some x->(y=i/\j<=q/\q<j+ts.length/\ts[q-j]?=some x)\/(¬(y=i/\j<=q/\q<j+ts.length)/\at2 xs y q=some x):=by intro y q x H;rw[fw hi]at H;by_cases G:y=i;subst G;rw[AY rfl,hset]at H;split at H;rename_i B;exact .inl ⟨rfl,B.1,B.2,H⟩;rename_i B;exact .inr ⟨λh=>B h.2,by simp[at2,J,H]⟩;rw[Aa G]at H;exact .inr ⟨λh=>G h.1,H⟩
 have harr:∀k,(arr.toList.take (off+i*e+j)++vs++arr.toList.drop (off+i*e+j+vs.length)).toArray[k]?=if off+i*e+j<=k/\k<off+i*e+j+vs.length then vs[k-(off+i*e+j)]? else arr[k]?:=by intro k;have:=Gu arr.toList (off+i*e+j) vs (by simpa using Y) k;rw[Lu _ _ _ (by simpa using Y)]at this;simpa using this
 let vv:Nat->Value:=λm=>vs.getD m undef;have hvv:∀(m:Nat) x,ts[m]?=some x->vs[m]?=some (vv m)/\Own w x (vv m) (nf m):=by
  intro m x H;have ⟨v,hv,ho⟩:=hown m x H;have:vv m=v:=by simp[vv,hv]
  rw[this];exact⟨hv,ho⟩
 let cc:Nat->Nat->Value:=λy q=>if y=i/\j<=q/\q<j+ts.length then vv (q-j) else c y q
 let ff:Nat->Nat->Blk:=λy q=>if y=i/\j<=q/\q<j+ts.length then nf (q-j) else f y q
 have cin:∀{y q},(y=i/\j<=q/\q<j+ts.length)->cc y q=vv (q-j)/\ff y q=nf (q-j):=by intro y q hh;exact⟨by simp[cc,AY hh],by simp[ff,AY hh]⟩
 have cout:∀{y q},¬(y=i/\j<=q/\q<j+ts.length)->cc y q=c y q/\ff y q=f y q:=by intro y q hh;exact⟨by simp[cc,Aa hh],by simp[ff,Aa hh]⟩
 have hframe:∀{x:T} {v:Value} {S0:Blk},Own w x v S0->(¬S0 blk)->Own (w.setRow blk (arr.toList.take (off+i*e+j)++vs++arr.toList.drop (off+i*e+j+vs.length)).toArray) x v S0:=by intro x v S0 ho hnb;exact ho.frame λb L=>setRow_other (by rintro rfl;exact hnb L)
 refine⟨λb=>b=blk\/∃y q x,at2 (xs.set i (ES row j ts)) y q=some x/\ff y q b,.sl cc ff (by simpa using k1) k2 ?_ (k4.set (by simp;omega)) ?_ ?_ ?_ ?_ ?_ (λb=>Iff.rfl),?_⟩;intro row' hr';rcases Cb hr' with hr'|rfl;exact k3 row' hr';rw[QJ];exact hrl;simp;omega;intro y q x H;rw[harr];rcases I y q x H with ⟨G,B,Q,h4⟩|⟨G,B⟩;rw[(cin ⟨G,B,Q⟩).1];subst G;rw[AY (by omega),show off+y*e+q-(off+y*e+j)=q-j from by omega];exact(hvv _ _ h4).1;rw[(cout G).1];have hj':q<e:=Qb B k3;rw[Aa];exact k6 y q x B;intro hh;apply G;have:y=i:=by rcases Nat.lt_trichotomy y i with hlt|heq|hgt;have:(y+1)*e<=i*e:=Ap _ hlt;rw[Bc]at this;omega;exact heq;have:(i+1)*e<=y*e:=Ap _ hgt;rw[Bc]at this;omega
 subst this;exact⟨rfl,by omega,by omega⟩;intro y q x H;rcases I y q x H with ⟨G,B,Q,h4⟩|⟨G,B⟩;rw[(cin ⟨G,B,Q⟩).1,(cin ⟨G,B,Q⟩).2];exact hframe (hvv _ _ h4).2 λL=>O _ _ (by omega) L X;rw[(cout G).1,(cout G).2];exact hframe (k7 y q x B) (k8 y q x B);intro y q x H;rcases I y q x H with ⟨G,B,Q,h4⟩|⟨G,B⟩;rw[(cin ⟨G,B,Q⟩).2];exact λL=>O _ _ (by omega) L X;rw[(cout G).2];exact k8 y q x B;intro i1 j1 x1 i2 j2 x2 hx1 hx2 hne b;rcases I i1 j1 x1 hx1 with ⟨G,B,Q,h4⟩|⟨G,B⟩;rw[(cin ⟨G,B,Q⟩).2];rcases I i2 j2 x2 hx2 with ⟨p1,p2,p3,p4⟩|⟨p1,p2⟩;rw[(cin ⟨p1,p2,p3⟩).2];exact hnn _ _ b (by omega) (by omega) (by omega);rw[(cout p1).2];exact λL Z=>O _ b (by omega) L ((k10 b).2 (.inr ⟨i2,j2,x2,p2,Z⟩));rw[(cout G).2];rcases I i2 j2 x2 hx2 with ⟨p1,p2,p3,p4⟩|⟨p1,p2⟩;rw[(cin ⟨p1,p2,p3⟩).2];exact λL Z=>O _ b (by omega) Z ((k10 b).2 (.inr ⟨i1,j1,x1,B,L⟩));rw[(cout p1).2];exact k9 i1 j1 x1 i2 j2 x2 B p2 hne b;grind
theorem cg{sh}{vs}{n}(e:Hz sh n=true)(h:vs.length=n)(c:∀v∈vs,v.oneCell'=true):(mkV sh vs).cells.toList=vs:=by
 cases sh with
 |one=>
  simp[Hz,beq_iff_eq]at e;match vs,h.trans e,c with
  | [v],_,c=>
   have:=c v (by simp);cases v<;>first|rfl|(simp[Value.oneCell']at this)
 |agg=>simp[mkV,Value.cells]|_=>simp[Hz]at e
def AZ4(S:St)(g:Gh)(x:Opd)(b:Nat):Prop:=∃l,S.one x=some l/\((∃id off,l=.bp id off/\(get S.bx id).isSome/\b=g.β id)\/∃r,l.CA=some r/\CP S r/\g.fp r b)
theorem AVZ{S:St}:∀{ls:List AS} {S:St} {S':St} {cs:List AS} (id:Nat),LO S ls=some (S',cs)->(get S'.bx id).isSome->(get S.bx id).isSome:=by
 intro ls;induction ls with
 |nil=>intro S S' cs id h c;simp[LO,AE,BC]at h;rw[h.1];exact c
 |cons l ls e=>intro S S' cs id h c;unfold LO at h;grind[St.out,St.kill,Dp,D8]
theorem ATc(h:Inv F S g a w){ov:Operand}{x v:Opd}{i:TypeInfo}(q:ev (.st n x v) S=some S')(hi:F.P.info? t=some i)(hn:i.size=n % 1048576)(hox:CH ox x=true)(hov:CH ov v=true)
 (hmx:∀p∈CK ox x,Mt F.A F.P p.1 p.2) (hmv:∀p∈CK ov v,Mt F.A F.P p.1 p.2) :
 ∃w' g',(Instr.storeAt t (a.eval ox) (a.eval ov)).run F.P w=.ok () w'/\Inv F S' g' a w'/\∀b,¬AZ4 S g x b->w'.heap[b]?=w.heap[b]?:=by
 simp[ev]at q;split at q;rename_i p e hp he;split at q;rename_i hcond;have ⟨I,hsh⟩:=hcond;have hrd:=QE h he hov hmv;have ⟨hpo,hpn⟩:=HL h hp hox hmx;unfold St.Tj at q;split at q;rename_i id o;split at q;rename_i S1 cs' B;split at q;cases q;rename_i htop;simp[Es]at htop;have hcs:∃vs nf,a.eval ov=mkV e.sh vs/\Inv F S1 g a w/\Cells F S1 g w cs' vs nf/\cs'.length=e.cs.length:=by unfold af at B;split at B;exact ag h hrd B;cases B;have ⟨vs,Z,hc⟩:=hrd.cells;exact⟨vs,_,Z,h,hc,rfl⟩
 have ⟨vs,nf,Z,y,hc,hl⟩:=hcs;have hpo':a.eval ox=.pointer (some ⟨g.β id,o,none⟩):=hpo;dsimp at q;split at q;rename_i ls hls;split at q;rename_i hle;cases q;have ⟨g',hg⟩:=y.AVP hc hls hle;have ⟨H,J⟩:=oT y hc hl (by rw[I];exact hsh) htop;have hls0:∃L,get S1.bx id=some L/\ls.length=L.length:=by simp[St.kill,Dp,AM]at hls;obtain⟨L,h0,rfl⟩:=hls;exact⟨L,h0,Fy _ _⟩
 have ⟨L,h0,hl0⟩:=hls0;have ⟨⟨E,hE⟩,hbl⟩:=y.bxs id L h0;have hsz:(a.eval ov).cells.size=n % 1048576:=by rw[Z,<-Bi,H,hc.1,hl,I]
 have X:=aK (e:=0) (P:=F.P) (t:=t) (b:=g.β id) (o:=o) (v:=a.eval ov) hi (by rw[hsz,hn]) (.of hE) (by simp[A7,hbl];omega) (by rw[Z,H];exact J);have hsome:(get S.bx id).isSome:=by
  unfold af at B;split at B;unfold M8 at B;split at B
  .exact AVZ (S:=S) id B (by rw[h0];rfl)
  cases B;cases B;rw[h0];rfl
 refine⟨_,g',by rw[hpo'];exact X,?_,λb G=>setRow_other (by rintro rfl;exact G ⟨_,hp,.inl ⟨id,o,rfl,hsome,rfl⟩⟩)⟩;have:(mkV e.sh vs).cells.size=vs.length:=by rw[<-Bi,H]
 simp only[Z,H,this];exact hg;cases q;cases q;cases q;rename_i r i' j;split at q;rename_i S1 ts B;split at q;rename_i e1 xs hx;split at q;rename_i row Q;split at q;rename_i hle;cases q;have ⟨vs,Z,h2,h3,h4⟩:=hrd;have ⟨g1,htaken,nf,hT,hnf⟩:=WA h h3 h2 (by intro c l hl;have ⟨u,hu,hok⟩:=h4 c l hl;exact⟨u,hu,λ_ _ _=>hok,λ_=>hok⟩) B;have ⟨t1,t2,t3,t4,t5,t6⟩:=hT;have y:=htaken.inv;have ⟨e0,xs0,blk,off,len,cap,q1,q2,q3,q4⟩:=hpo;have hfpb:g.fp r blk:=by
  have ⟨u,hu,O⟩:=h.C6 r _ q1;rw[q2]at hu;cases hu;cases O with
  |sc hh _ _=>exact hh.elim|sl c f k1 k2 k3 k4 k5 k6 k7 k8 k9 k10=>exact(k10 blk).2 (.inl rfl)
 have halS:CP S r:=⟨_,q1⟩;have ⟨x0,hx0,hlike⟩:=htaken.ADV r _ hx;rw[q1]at hx0;cases hx0;obtain rfl:e0=e1:=by rcases hlike with hh|⟨e2,l1,l2,hh1,hh2,_⟩;cases hh;rfl;cases hh1;cases hh2;rfl
 have ⟨u,hu,O⟩:=y.C6 r _ hx;have q2':g1.rv r=some (.slice (some ⟨blk,off,none⟩) len cap):=(htaken.rv r).trans q2;rw[q2']at hu;cases hu;have J:∀v∈vs,v.oneCell'=true:=by
  intro v hv;have ⟨c,hc⟩:=B0 hv;have hlt:c<ts.length:=by rw[<-t1];exact(AO.1 hc).1
  have ⟨v',hv',ho⟩:=t2 c ts[c] (by simp);rw[hc]at hv';cases hv';exact ho.one
 have H:=cg hsh (h2.trans I) J;have hsz:(mkV e.sh vs).cells.size=vs.length:=by rw[<-Bi,H]
 cases O with
 |sc hh _ _=>exact hh.elim|sl c f k1 k2 k3 k4 k5 k6 k7 k8 k9 k10=>
  rename_i arr E;have hal:CP S1 r:=⟨_,hx⟩;have ⟨fp',hO,Y⟩:=AAA (w:=w) (fp:=g1.fp r) k1 k2 k3 k4 k5 k6 k7 k8 k9 k10 Q hle t1 t2 (λm b hm G=>t4 m r b hm hal G) t6;have hrl:row.length=e0:=k3 row (A4 Q);have hi':i'<xs.length:=(AO.1 Q).1;have hmul:(i'+1)*e0<=cap*e0:=Ap _ (by omega);rw[Bc]at hmul;have X:=aK (P:=F.P) (t:=t) (b:=blk) (o:=off+i'*e0+j) (v:=a.eval ov) hi (by rw[Z,hsz,h2,I,hn]) k4 (by rw[Z];omega) (by rw[Z,H];exact J);have hblk:g1.fp r blk:=(k10 blk).2 (.inl rfl);have ⟨g',hg⟩:=y.AU0 (ys:=xs.set i' (ES row j ts)) (fp':=fp') hx q2' (by simp) (w':=w.setRow blk (arr.toList.take (off+i'*e0+j)++vs++arr.toList.drop (off+i'*e0+j+vs.length)).toArray)
   Still.setRow (λb _ G=>setRow_other (by rintro rfl;exact G hblk)) hO
   (λb G=>by rcases Y b G with G|⟨m,hm,G⟩;exact y.Hw r hal b G;exact t3 m b hm G)
   (λr' hr' hne b G=>by rcases Y b G with G|⟨m,hm,G⟩;exact y.dis r r' hal hr' (Ne.symm hne) b G;exact t4 m r' b hm hr' G)
   (λid hid G=>by rcases Y _ G with G|⟨m,hm,G⟩;exact y.F3 r id hal hid G;exact t5 m id hm hid G)
  refine⟨_,g',by rw[q4];exact X,?_,λb G=>setRow_other (by rintro rfl;exact G ⟨_,hp,.inr ⟨r,rfl,halS,hfpb⟩⟩)⟩;simp only[Z,H,hsz];exact hg
 cases q;cases q;cases q;cases q;cases q;cases q;cases q
theorem AMM{p q:AS}{v:Value}{off:Nat}(I:Bz F S g w (λ_=>False) p v)(h:OX off p=some q) :
 ∃b o,v=.pointer (some ⟨b,o,none⟩)/\Bz F S g w (λ_=>False) q (.pointer (some ⟨b,o+off,none⟩))/\∀x,q≠.ow x:=by
 match p,I with
 |.bp id o,I=>have J:v=_:=I;subst J;simp[OX,AE]at h;subst h;exact⟨_,_,rfl,rfl,by simp⟩
 |.ep r i j,⟨e,xs,blk,o,len,cap,B,y,E,L⟩=>subst L;simp[OX,AE]at h;subst h;exact⟨_,_,rfl,⟨e,xs,blk,o,len,cap,B,y,E,by rw[CW]⟩,by simp⟩
 |.vp (.own r _) cs,⟨H,⟨b,o,sp⟩,c,f,B,y,E⟩=>subst B;simp at y;subst y;simp[OX,AE]at h;subst h;refine⟨_,_,rfl,⟨H,⟨b,o+off,none⟩,λj=>c (off+j),λj=>f (off+j),rfl,rfl,λj x G=>?_⟩,by simp⟩;rw[Bw]at G;have:=E (off+j) x G;simp at this ⊢;rw[CW];exact this
 |.vp (.old k) cs,⟨⟨b,o,sp⟩,c,B,y,E⟩=>subst B;simp at y;subst y;simp[OX,AE]at h;subst h;refine⟨_,_,rfl,⟨⟨b,o+off,none⟩,λj=>c (off+j),rfl,rfl,λj x G=>?_⟩,by simp⟩;rw[Bw]at G;have:=E (off+j) x G;simp at this ⊢;rw[CW];exact this
theorem ATY(h:Inv F S g a w){off f:Nat}{o:Operand}{x:Opd}(E:d<F.N)(c:ev (.fa d off x) S=some S')(j:ZW F.P t f off=true)(L:CH o x=true)(I:∀p∈CK o x,Mt F.A F.P p.1 p.2) :
 ∃v g',(∀w1:World,(Instr.fieldAt t (a.eval o) f).run F.P w1=.ok v w1)/\Inv F S' g' (a.put (some d) v) w:=by simp[ev]at c;split at c;rename_i p O;split at c;rename_i q Q;have ⟨b,o',Y,H,J⟩:=AMM (HL h O L I).1 Q;unfold ZW at j;split at j;rename_i fs X;split at j;rename_i fl B;simp[AD,beq_iff_eq]at j;have ⟨y,e⟩:=j;split at e;rename_i i hi;simp[decide_eq_true_eq]at e;have ⟨g',G⟩:=SY h E c J H;refine⟨_,g',?_,G⟩;rw[Y,<-y];exact λ_=>oM X B hi e;cases e;cases j;cases j;cases c;cases c
theorem AG5(h:Inv F S g a w){o:Operand}{x:Opd}(G:d<F.N)(q:ev (.chk d x) S=some S')(J:CH o x=true)(H:∀p∈CK o x,Mt F.A F.P p.1 p.2) :
 ∃ad g',a.eval o=.pointer (some ad)/\Inv F S' g' (a.put (some d) (a.eval o)) w:=by
 simp[ev]at q;split at q;rename_i p L;split at q;rename_i c;have ⟨y,I⟩:=HL h L J H;have ⟨g',O⟩:=SY h G q I y;have:∃ad,a.eval o=.pointer (some ad):=by
  match p,y with
  |.bp id off,y=>exact⟨_,y⟩|.ep r i j,⟨e,xs,blk,off,len,cap,_,_,_,E⟩=>exact⟨_,E⟩|.vp (.own r _) cs,⟨_,ad,_,_,B,_⟩=>exact⟨_,B⟩|.vp (.old k) cs,⟨ad,_,B,_⟩=>exact⟨_,B⟩|.t _,_=>simp[St.T0]at c|.und,_=>simp[St.T0]at c|.ow _,_=>simp[St.T0]at c|.al _ _,_=>simp[St.T0]at c|.vw (.own _ _) _ _,_=>simp[St.T0]at c|.vw (.old _) _ _,_=>simp[St.T0]at c|.fn _ _,_=>simp[St.T0]at c
 grind;cases q;cases q
theorem XA(h:Inv F S g a w){l:AS}{v:Value}(y:Bz F S g w (λ_=>False) l v){xs:List (List T)}(c:S.elems l=some xs) :
 (xs=[]/\v=.slice none 0 0)\/∃e,View w (λ_=>True) (.sl e xs) v/\∀q,S.wide q l=true->q=e:=by
 have up:∀{B:Blk} {x:T} {v:Value},View w B x v->View w (λ_=>True) x v:=λQ=>Q.mono (λ_ _=>trivial) λ_ _=>rfl;match l,y with
 |.al r sub,⟨x,u,I,J,L⟩=>
  simp[St.elems,I,AM]at c;obtain⟨ys,H,rfl⟩:=c;have ⟨X,G,E⟩:=h.C6 r _ I;rw[J]at G;cases G;have ⟨S0,_,hO⟩:=TV E L;cases x with
  |sl e zs=>simp[content,AE]at H;subst H;exact .inr ⟨e,up hO.view,λq j=>by simp[St.wide,I,eOf]at j;exact j.symm⟩
  |nil=>
   simp[content,AE]at H;subst H;cases hO with
   |sc O _ _=>exact .inl ⟨by cases sub with|none=>rfl|some p=>simp[K6],O⟩
  |_=>simp[content]at H
 |.vw (.own r _) e ys,⟨_,⟨S0,_,hO⟩,_⟩=>simp[St.elems,AE]at c;subst c;exact .inr ⟨e,up hO.view,λq j=>by simp[St.wide]at j;exact j.symm⟩
 |.vw (.old k) e ys,y=>simp[St.elems,AE]at c;subst c;exact .inr ⟨e,up y,λq j=>by simp[St.wide]at j;exact j.symm⟩
 |.t x,y=>
  cases x with
  |nil=>simp[St.elems,AE]at c;subst c;exact .inl ⟨rfl,y⟩|_=>simp[St.elems]at c
 |.und,_=>simp[St.elems]at c|.ow _,_=>simp[St.elems]at c|.ep _ _ _,_=>simp[St.elems]at c|.vp (.own _ _) _,_=>simp[St.elems]at c|.vp (.old _) _,_=>simp[St.elems]at c|.bp _ _,_=>simp[St.elems]at c|.fn _ _,_=>simp[St.elems]at c
theorem Hf{e}(h:GZ P t e=true):∃el i,P.underlying t=some (.slice el)/\P.info? el=some i/\i.size=e/\i.bytes<=65536/\0<e:=by grind[GZ]
theorem zB(h:Inv F S g a w){ty:TypeId}{o:Operand}{x:Opd}(e:d<F.N)(c:ev (.lens d x) S=some S')(E:isStr F.P t=true)(q:CH o x=true)(j:∀p∈CK o x,Mt F.A F.P p.1 p.2) :
 (∃v g',(∀w1:World,(Builtin.len_ #[t] ty #[a.eval o]).run F.P w1=.ok v w1)/\Inv F S' g' (a.put (some d) v) w):=by simp[ev]at c;split at c;rename_i s y;have G:a.eval o=.string ⟨s.toArray⟩:=Sd h y q j;have ⟨g',B⟩:=MX (v:=.int .i64 s.length) h e c rfl;grind[isStr,run_len_string,goInt,ByteArray.size];cases c
theorem AHA(h:Inv F S g a w){t ty:TypeId}{o:Operand}{x:Opd}(H:d<F.N)(j:ev (.len d x) S=some S')
 (E:(match F.P.underlying t with|some (.slice _)=>true|_=>false)=true) (O:CH o x=true) (L:∀p∈CK o x,Mt F.A F.P p.1 p.2) :
 (∃v g',(∀w1:World,(Builtin.len_ #[t] ty #[a.eval o]).run F.P w1=.ok v w1)/\Inv F S' g' (a.put (some d) v) w):=by
 simp[ev]at j;split at j;rename_i l J;have ⟨y,Y⟩:=HL h J O L;split at j;rename_i xs B;have ⟨g',I⟩:=MX (v:=.int .i64 xs.length) h H j rfl;have q:∃ad cap,a.eval o=.slice ad xs.length cap:=by rcases XA h y B with ⟨rfl,q⟩|⟨e,q,_⟩;exact⟨none,0,q⟩;generalize a.eval o=u at q;cases q with|nl=>exact⟨_,_,rfl⟩|sc Q=>exact Q.elim|sl c G=>exact⟨_,_,by rw[G]⟩
 have ⟨ad,cap,q⟩:=q;split at E;rename_i el X;refine⟨_,g',?_,I⟩;rw[q];simp[Builtin.len_,run_underlying X,goInt];cases E;cases j;cases j
theorem AAb{xs}{j:Nat}{x:T}(h:(xs.getD n [])[j]?=some x):at2 xs n j=some x:=by grind[at2]
theorem ATZ(h:Inv F S g a w){e:Nat}{o:Operand}{x i:Opd}(hd:d<F.N)(B:ev (.ia d e x i) S=some S')(he:GZ F.P t e=true)(ho:CH o x=true)(hoi:CH oi i=true)
 (hm:∀p∈CK o x,Mt F.A F.P p.1 p.2) (hmi:∀p∈CK oi i,Mt F.A F.P p.1 p.2) :
 ∃v g',(∀w1:World,(Instr.indexAt t (a.eval o) (a.eval oi)).run F.P w1=.ok v w1)/\Inv F S' g' (a.put (some d) v) w:=by
 have ⟨el,ti,hu,hti,hsz,_,_⟩:=Hf he;simp[ev]at B;split at B;rename_i l n hl hn;have ⟨k,hk⟩:=VF h hn hoi hmi;have ⟨hok,hnow⟩:=HL h hl ho hm;split at B;rename_i xs y;split at B;rename_i hcond;have ⟨hwide,h0,h1⟩:=hcond;rw[hk];have G:n.toNat<xs.length:=by omega
 have fin:∀(blk off len cap:Nat) (q:AS),a.eval o=.slice (some ⟨blk,off,none⟩) len cap->len=xs.length->S.Eo d ⟨.one,[q]⟩=some S'->(∀x,q≠.ow x) ->
  Bz F S g w (λ_=>False) q (.pointer (some ⟨blk,off+n.toNat*e,none⟩)) ->
  ∃v g',(∀w1:World,(Instr.indexAt t (a.eval o) (.int k n)).run F.P w1=.ok v w1)/\Inv F S' g' (a.put (some d) v) w:=by
  intro blk off len cap q hv hlen hp hq Q;have ⟨g',hg⟩:=SY h hd hp hq Q;refine⟨_,g',?_,hg⟩;rw[hv,<-hsz];exact λ_=>oN hu hti h0 (by omega)
 match l,hok with
 |.al r sub,⟨x,u,q1,q2,q3⟩=>
  have hwide':=hwide;simp[St.wide,q1]at hwide';simp[St.elems,q1,AM]at y;obtain⟨ys,hy,rfl⟩:=y;have ⟨u',Z,X⟩:=h.C6 r _ q1;rw[q2]at Z;cases Z;cases x with
  |sl J zs=>
   simp[eOf,beq_iff_eq]at hwide';subst hwide';simp[content,AE]at hy;subst hy;cases X with
   |sc O _ _=>exact O.elim|nl=>cases sub<;>simp[K6]at G
   |sl c f k1 k2 k3 k4 k5 k6 k7 k8 k9 L=>
    next blk off len cap arr E=>cases sub with
    |none=>have hv:a.eval o=.slice (some ⟨blk,off,none⟩) len cap:=q3;exact fin blk off len cap _ hv (by simpa[K6] using k1) B (by simp) ⟨J,zs,blk,off,len,cap,q1,q2,by simpa[K6] using G,by simp⟩
    |some p=>
     have ⟨lo,m⟩:=p;obtain⟨blk',off',len',cap',off'',cap'',p1,p2,p3,p4,p5,p6⟩|⟨p1,_⟩:=q3;case inr=>cases p1
     cases p1;simp[K6,List.length_take,List.length_drop]at G;have hc:cap''≠0:=by omega
     refine fin blk off'' m cap'' _ p2 (by simp[K6];omega) B (by simp) ⟨J,zs,blk,off,len,cap,q1,q2,by omega,?_⟩;rw[p5 hc,Bc];congr 3;omega
  |nil=>simp[content,AE]at hy;subst hy;cases sub<;>simp[K6]at G
  |_=>simp[content]at hy
 |.vw (.own r _) J ys,⟨hal,⟨S0,hS0,hO⟩,_⟩=>
  simp[St.elems,AE]at y;subst y;simp[St.wide,beq_iff_eq]at hwide;subst hwide;have ⟨vo,I⟩:∃vo,a.eval o=vo:=⟨_,rfl⟩;rw[I]at hO;cases hO with
  |sc O _ _=>exact O.elim|nl=>simp at G|sl c f k1 k2 k3 k4 k5 k6 k7 k8 k9 L=>next blk off len cap arr E=>refine fin blk off len cap _ I k1 B (by simp) ⟨hal,⟨blk,off+n.toNat*J,none⟩,λj=>c n.toNat j,λj=>f n.toNat j,rfl,rfl,λj x hx=>?_⟩;have H:=AAb hx;refine⟨hS0 _ ((L _).2 (.inl rfl)),?_,λb hb=>hS0 b ((L b).2 (.inr ⟨_,_,_,H,hb⟩)),k7 _ _ _ H⟩;rw[k4.cell];exact k6 _ _ _ H
 |.vw (.old kk) J ys,hV=>
  simp[St.elems,AE]at y;subst y;simp[St.wide,beq_iff_eq]at hwide;subst hwide;have ⟨vo,I⟩:∃vo,a.eval o=vo:=⟨_,rfl⟩;rw[I]at hV;have hV':View w (F.R kk) (.sl J ys) vo:=hV;cases hV' with
  |nl=>simp at G|sc O=>exact O.elim|sl c k1 k2 k3 k4 k5 k6=>
   rename_i ad len cap;have hne:ys≠[]:=by rintro rfl;simp at G
   have ⟨Y,hR⟩:=k4 hne;have ⟨blk,off,sp⟩:=ad;simp at Y hR k5;subst Y;refine fin blk off len cap _ I k1 B (by simp) ⟨⟨blk,off+n.toNat*J,none⟩,λj=>c n.toNat j,rfl,rfl,λj x hx=>?_⟩;have H:=AAb hx;exact⟨hR,k5 _ _ _ H,k6 _ _ _ H⟩
 |.t x,_=>cases x<;>first|(simp[St.elems,AE]at y;subst y;simp at G)|simp[St.elems]at y
 |.und,_=>simp[St.elems]at y|.ow _,_=>simp[St.elems]at y|.ep _ _ _,_=>simp[St.elems]at y|.vp (.own _ _) _,_=>simp[St.elems]at y|.vp (.old _) _,_=>simp[St.elems]at y|.bp _ _,_=>simp[St.elems]at y|.fn _ _,_=>simp[St.elems]at y
 cases B;cases B;cases B
theorem ATa(h:Inv F S g a w){o:Operand}{x i:Opd}(y:d<F.N)(c:ev (.ix d x i) S=some S')(q:isStr F.P t=true)(G:CH o x=true)(j:CH oi i=true)
 (B:∀p∈CK o x,Mt F.A F.P p.1 p.2) (e:∀p∈CK oi i,Mt F.A F.P p.1 p.2) :
 ∃v g',(∀w1:World,(Instr.index t (a.eval o) (a.eval oi)).run F.P w1=.ok v w1)/\Inv F S' g' (a.put (some d) v) w:=by simp[ev]at c;split at c;rename_i s n H E;have ⟨k,J⟩:=VF h E j e;have O:a.eval o=.string ⟨s.toArray⟩:=Sd h H G B;split at c;rename_i hcond;unfold isStr at q;split at q;rename_i L;have ⟨g',I⟩:=MX (v:=.int .u8 (s.getD n.toNat 0).toNat) h y c rfl;grind[zb];cases q;cases c;cases c
theorem ATd(h:Inv F S g a w){op:UnOp}{o:Operand}{x:Opd}(y:d<F.N)(c:ev (.un d op x) S=some S')(G:CH o x=true)(E:∀p∈CK o x,Mt F.A F.P p.1 p.2) :
 ∃v g',(∀w1:World,(Op.unary op (a.eval o)).run F.P w1=.ok v w1)/\Inv F S' g' (a.put (some d) v) w:=by
 simp[ev]at c;split at c;rename_i I H;have B:=Sd h H G E;split at c;next t j=>cases I with
 |bool b=>have e:a.eval o=.bool b:=B;cases op<;>simp[unT]at j;subst j;have ⟨g',q⟩:=MX (v:=.bool !b) h y c rfl;exact⟨_,g',by rw[e];intro w1;rfl,q⟩
 |int k n=>have e:a.eval o=.int k n:=B;cases op<;>simp[unT]at j;subst j;have ⟨g',q⟩:=MX (v:=.int k (k.wrap (-n))) h y c rfl;refine⟨_,g',?_,q⟩;rw[e,<-Int.zero_sub];intro w1;rfl
 |_=>cases op<;>simp[unT]at j
 cases c;cases c
theorem AG7(h:Inv F S g a w){s t:TypeId}{o:Operand}{x:Opd}(y:d<F.N)(c:ev (.cvI d k x) S=some S')(H:CH o x=true)(E:∀p∈CK o x,Mt F.A F.P p.1 p.2)
 (e:isInt F.P t k=true) (q:(match F.P.underlying s with|some (.int _)=>true|_=>false)=true) :
 ∃v g',(∀w1:World,(convert s t (a.eval o)).run F.P w1=.ok v w1)/\Inv F S' g' (a.put (some d) v) w:=by simp[ev]at c;split at c;rename_i n G;have ⟨L,J⟩:=VF h G H E;have ⟨g',B⟩:=MX (v:=.int k (k.wrap n)) h y c rfl;unfold isInt at e;split at e;rename_i O I;simp[decide_eq_true_eq]at e;subst e;split at q;rename_i Q j;refine⟨_,g',?_,B⟩;rw[J];simp[convert,run_underlying I,run_underlying j,Conv.intToInt];cases q;cases e;cases c
theorem AKg(h:Inv F S g a w){m:Bool}{oa ob:Operand}{x y:Opd}(H:d<F.N)(c:ev (.mm d m x y) S=some S')(E:CH oa x=true)(G:CH ob y=true)
 (j:∀p∈CK oa x,Mt F.A F.P p.1 p.2) (B:∀p∈CK ob y,Mt F.A F.P p.1 p.2) {ts:Array TypeId} {t:TypeId} :
 ∃v g',(∀w1:World,((if m then Builtin.max_ ts t #[a.eval oa,a.eval ob] else Builtin.min_ ts t #[a.eval oa,a.eval ob]):Sem Value).run F.P w1=.ok v w1)/\Inv F S' g' (a.put (some d) v) w:=by
 simp[ev]at c;split at c;rename_i k p e q Q X;split at c;next O=>subst O;have J:a.eval oa=.int e p:=Sd h Q E j;have L:a.eval ob=.int e q:=Sd h X G B;cases m with
 |true=>obtain⟨g',I⟩:=MX (x:=.int e (if q>p then q else p)) (v:=.int e (if q>p then q else p)) h H (by simpa using c) rfl;grind[run_max_int2]
 |false=>obtain⟨g',I⟩:=MX (x:=.int e (if q<p then q else p)) (v:=.int e (if q<p then q else p)) h H (by simpa using c) rfl;refine⟨_,g',?_,I⟩;rw[J,L];exact λw1=>run_min_int2 w1 ts t e e p q
 cases c;cases c
theorem tj{w}{n:Int}{y:Nat}{c}(e:0<=n)(h:n<=y):(Instr.sliceBound (.int k n) y c).run P w=.ok n.toNat w:=by simp[Instr.sliceBound,asIntOf,e,h,go_sem]
theorem QD(h:Inv F S g a w){len cap}{lo hi}{p}(j:S.range len xlo xhi=some p)(O:len<=cap)(e:Wp lo xlo=true)(c:Wp hi xhi=true)
(E:∀p∈VJ lo xlo,Mt F.A F.P p.1 p.2)(B:∀p∈VJ hi xhi,Mt F.A F.P p.1 p.2)  sl  :
 p.1<=p.2/\p.2<=len/\∀w1:World,(Instr.sliceBounds sl len cap (lo.map a.eval) (hi.map a.eval) none).run F.P w1=.ok (p.1,p.2,cap) w1:=by
 unfold St.range at j;split at j;rename_i x y H I;split at j;rename_i Q;cases j;refine⟨by simp;omega,by simp;omega,λw1=>?_⟩;have J:(match hi.map a.eval with|some v=>Instr.sliceBound v cap (if sl then .sliceAcap else .sliceAlen)|none=>(pure len:Sem Nat)).run F.P w1=.ok y.toNat w1:=by
  match hi,xhi,c with
  |none,none,_=>simp only[St.ATL,AE]at I;subst I;rfl|some o,some xo,c=>have ⟨k,q⟩:=VF h I c (λp G=>B p G);simp only[As,q];exact tj (by omega) (by omega)
 have L:(match lo.map a.eval with|some v=>Instr.sliceBound v y.toNat .sliceB|none=>(pure 0:Sem Nat)).run F.P w1=.ok x.toNat w1:=by
  match lo,xlo,e with
  |none,none,_=>simp only[St.ATL,AE]at H;subst H;rfl|some o,some xo,e=>have ⟨k,q⟩:=VF h H e (λp G=>E p G);simp only[As,q];exact tj (by omega) (by omega)
 generalize hi.map a.eval=vh at *;generalize lo.map a.eval=vl at *;unfold Instr.sliceBounds;cases vh<;>cases vl<;>simp_all[go_sem];cases j;cases j
theorem zI(h:Inv F S g a w){o:Operand}{x:Opd}{lo hi:Option Operand}(Q:d<F.N)(c:ev (.Xl d x xlo xhi) S=some S')(I:isStr F.P t=true)(Z:CH o x=true)
 (B:Wp lo xlo=true) (y:Wp hi xhi=true) (Y:∀p∈CK o x,Mt F.A F.P p.1 p.2) (G:∀p∈VJ lo xlo,Mt F.A F.P p.1 p.2) (E:∀p∈VJ hi xhi,Mt F.A F.P p.1 p.2) :
 ∃v g',(∀w1:World,(Instr.sliceAt t (a.eval o) (lo.map a.eval) (hi.map a.eval) none).run F.P w1=.ok v w1)/\Inv F S' g' (a.put (some d) v) w:=by
 simp[ev]at c;split at c;rename_i s hs;have hv:a.eval o=.string ⟨s.toArray⟩:=Sd h hs Z Y;split at c;rename_i p q hr;unfold isStr at I;split at I;rename_i J;have ⟨L,O,e⟩:=QD h hr (Aj _) B y G E false;simp at L O e;have ⟨g',X⟩:=MX (v:=.string ⟨((s.drop p).take (q-p)).toArray⟩) h Q c rfl;refine⟨_,g',λw1=>?_,X⟩;have e:=e w1;rw[hv,run_sliceAt_string _ _ _ _ _ _ J];have H:(⟨s.toArray⟩:ByteArray).size=s.length:=by simp[ByteArray.size]
 have j:(⟨s.toArray⟩:ByteArray).extract p q=⟨((s.drop p).take (q-p)).toArray⟩:=by apply ByteArray.ext;simp[ByteArray.data_extract,Hs]
 simp[Instr.slice,run_underlying J,H,go_sem]at e ⊢;simp[e,j,go_sem];cases I;cases c;cases c
theorem zf{w:World}{i:TypeInfo}{ad:Option Addr}{len cap p q:Nat}{lo hi:Option Value}(h:P.underlying t=some (.slice el))(c:P.info? el=some i)
 (e:(Instr.sliceBounds true len cap lo hi none).run P w=.ok (p,q,cap) w) :
 (Instr.sliceAt t (.slice ad len cap) lo hi none).run P w=.ok (.slice (if cap=p then ad else ad.map (·.add (p*i.size))) (q-p) (cap-p)) w:=by simp[Instr.sliceAt,Instr.slice,run_underlying h,go_sem]at e ⊢;simp[e,IA c,go_sem]
theorem AHC(h:Inv F S g a w){e:Nat}{o:Operand}{x:Opd}{lo hi:Option Operand}(hd:d<F.N)(y:ev (.sub d e x xlo xhi) S=some S')(he:GZ F.P t e=true)(ho:CH o x=true)
 (hlo:Wp lo xlo=true) (hhi:Wp hi xhi=true) (hm:∀p∈CK o x,Mt F.A F.P p.1 p.2) (hml:∀p∈VJ lo xlo,Mt F.A F.P p.1 p.2) (hmh:∀p∈VJ hi xhi,Mt F.A F.P p.1 p.2) :
 ∃v g',(∀w1:World,(Instr.sliceAt t (a.eval o) (lo.map a.eval) (hi.map a.eval) none).run F.P w1=.ok v w1)/\Inv F S' g' (a.put (some d) v) w:=by
 have ⟨el,ti,hu,hti,hsz,_,_⟩:=Hf he;simp only[ev]at y;split at y;rename_i l hl;have ⟨L,hnow⟩:=HL h hl ho hm;split at y;rename_i xs B;have hxs':S.wide e l=true/\S.elems l=some xs:=by by_cases hw:S.wide e l=true;exact⟨hw,by simpa[hw] using B⟩;simp[hw]at B
 have ⟨hwide,B⟩:=hxs';split at y;rename_i p q hr;have fin:∀(ad:Option Addr) (cap:Nat) (ql:AS),a.eval o=.slice ad xs.length cap->xs.length<=cap->S.Eo d ⟨.one,[ql]⟩=some S'->(∀x,ql≠.ow x) ->
  (p<=q->q<=xs.length->Bz F S g w (λ_=>False) ql (.slice (if cap=p then ad else ad.map (·.add (p*e))) (q-p) (cap-p))) ->
  ∃v g',(∀w1:World,(Instr.sliceAt t (a.eval o) (lo.map a.eval) (hi.map a.eval) none).run F.P w1=.ok v w1)/\Inv F S' g' (a.put (some d) v) w:=by
  intro ad cap ql hv hlc hp hq hok';have ⟨X,H,h3⟩:=QD h hr hlc hlo hhi hml hmh true;obtain⟨g',hg⟩:=SY h hd hp hq (hok' X H);refine⟨_,g',?_,hg⟩;rw[hv,<-hsz];exact λw1=>zf hu hti (h3 w1)
 match l,L with
 |.al r sub,⟨x,u,q1,q2,Z⟩=>
  have hwide':=hwide;simp only[St.wide,q1]at hwide';simp only[St.elems,q1,AM]at B;obtain⟨ys,hy,rfl⟩:=B;obtain⟨u',hu',hown⟩:=h.C6 r _ q1;rw[q2]at hu';cases hu';cases x with
  |sl J zs=>
   simp only[eOf,beq_iff_eq]at hwide';subst hwide';simp only[content,AE]at hy;subst hy;cases hown with
   |sc I _ _=>exact I.elim|nl hn=>
    have hxe:K6 sub ([]:List (List T))=[]:=by cases sub<;>simp[K6]
    have hv:a.eval o=.slice none 0 0/\(sub=none\/sub=some (0,0)):=by
     cases sub with
     |none=>exact⟨Z,.inl rfl⟩|some pr=>obtain⟨lo0,m⟩:=pr;obtain⟨_,_,_,_,_,_,Z,_⟩|⟨_,Z,_,rfl,rfl⟩:=Z;cases Z;exact⟨Z,.inr rfl⟩
    obtain⟨hv,Y⟩:=hv;rw[hxe]at fin;rcases Y with rfl|rfl <;>
    .refine fin none 0 _ hv (ER _) y (by simp) ?_;intro X H;simp only[AT]at H;refine⟨_,_,q1,q2,?_⟩;have:p=0:=by omega
     subst this;have:q=0:=by omega
     subst this;exact .inr ⟨rfl,by simp,rfl,rfl,rfl⟩
   |sl c f k1 k2 k3 k4 k5 k6 k7 k8 k9 k10=>
    rename_i blk off len cap arr E;cases sub with
    |none=>have hv:a.eval o=.slice (some ⟨blk,off,none⟩) len cap:=Z;simp only[K6]at fin;refine fin (some ⟨blk,off,none⟩) cap _ (by rw[hv,k1]) (by omega) y (by simp) ?_;intro X H;refine⟨.sl J zs,_,q1,q2,?_⟩;by_cases O:cap=p;refine .inl ⟨blk,off,len,cap,off,cap-p,rfl,by simp[O],by omega,rfl,λI=>(I (by omega)).elim,Nat.le_add_right _ _⟩;refine .inl ⟨blk,off,len,cap,off+p*J,cap-p,rfl,by simp[O,HV],by omega,rfl,λ_=>rfl,Aj _⟩
    |some pr=>
     obtain⟨lo0,m⟩:=pr;obtain⟨blk',off',len',cap',off'',cap'',p1,p2,p3,p4,p5,p6⟩|⟨p1,_⟩:=Z;case inr=>cases p1
     cases p1;have G:(K6 (some (lo0,m)) zs).length=m:=by simp[K6];omega
     refine fin (some ⟨blk,off'',none⟩) cap'' _ (by rw[p2,G]) (by omega) y (by simp) ?_;intro X H;rw[G]at H;refine⟨.sl J zs,_,q1,q2,?_⟩;have hmul:(lo0+p)*J=lo0*J+p*J:=Bc ..;by_cases O:cap''=p;exact .inl ⟨blk,off,len,cap,off'',cap''-p,rfl,by simp[O],by omega,by omega,λI=>(I (by omega)).elim,by omega⟩;have:=p5 (by omega);exact .inl ⟨blk,off,len,cap,off''+p*J,cap''-p,rfl,by simp[O,HV],by omega,by omega,λ_=>by omega,by omega⟩
  |nil=>
   simp only[content,AE]at hy;subst hy;have hxe:K6 sub ([]:List (List T))=[]:=by cases sub<;>simp[K6]
   cases hown with
   |sc hs _ _=>
    have hs':u=.slice none 0 0:=hs;have hv:a.eval o=.slice none 0 0:=by
     cases sub with
     |none=>exact(show a.eval o=u from Z).trans hs'|some pr=>exact Z.1.trans hs'
    have Y:sub=none\/sub=some (0,0):=by
     cases sub with
     |none=>exact .inl rfl|some pr=>have ⟨_,e1,e2⟩:=Z;exact .inr (by cases pr;simp_all)
    rw[hxe]at fin;rcases Y with rfl|rfl;refine fin none 0 _ hv (ER _) y (by simp) ?_;intro X H;simp only[AT]at H;refine⟨.nil,u,q1,q2,?_⟩;refine⟨?_,by omega,by omega⟩;rw[hs'];have:p=0:=by omega
    subst this;have:q=0:=by omega
    subst this;simp;refine fin none 0 _ hv (ER _) y (by simp) ?_;intro X H;simp only[AT]at H;refine⟨.nil,u,q1,q2,?_⟩;refine⟨?_,by omega,by omega⟩;rw[hs'];have:p=0:=by omega
    subst this;have:q=0:=by omega
    subst this;simp
  |_=>simp[content]at hy
 |.vw s J ys,L=>
  simp only[St.elems,AE]at B;subst B;simp only[St.wide,beq_iff_eq]at hwide;subst hwide;have ⟨vo,Q⟩:∃vo,a.eval o=vo:=⟨_,rfl⟩;cases s with
  |own r=>
   have ⟨hal,⟨S0,hS0,hO⟩,_⟩:=L;rw[Q]at hO;have hO2:=hO;cases hO with
   |sc I _ _=>exact I.elim|nl hn=>
    refine fin none 0 _ Q (ER _) y (by simp) ?_;intro X H;simp only[AT]at H;have:p=0:=by omega
    subst this;have:q=0:=by omega
    subst this;exact⟨hal,⟨S0,hS0,by simpa using Own.nl hn⟩,trivial⟩
   |sl c f k1 k2 k3 k4 k5 k6 k7 k8 k9 k10=>rename_i blk off len cap arr E;refine fin (some ⟨blk,off,none⟩) cap _ (by rw[Q,k1]) (by omega) y (by simp) ?_;intro X H;by_cases O:cap=p;have ⟨S1,hS1,hO3⟩:=hO2.sub (lo:=p) (n:=q-p) (off':=off) (cap':=cap-p) (by omega) (by omega) (Aj _) (λI=>(I (by omega)).elim) (by omega);exact⟨hal,⟨S1,λb hb=>hS0 b (hS1 b hb),by simpa[O] using hO3⟩,trivial⟩;have ⟨S1,hS1,hO3⟩:=hO2.sub (lo:=p) (n:=q-p) (off':=off+p*J) (cap':=cap-p) (by omega) (by omega) (Aj _) (λ_=>rfl) (Aj _);exact⟨hal,⟨S1,λb hb=>hS0 b (hS1 b hb),by simpa[O,HV] using hO3⟩,trivial⟩
  |old k=>
   rw[Q]at L;have hV:View w (F.R k) (.sl J ys) vo:=L;cases hV with
   |sc I=>exact I.elim|nl=>
    refine fin none 0 _ Q (ER _) y (by simp) ?_;intro X H;simp only[AT]at H;have:p=0:=by omega
    subst this;have:q=0:=by omega
    subst this;exact .nl
   |sl c k1 k2 k3 k4 k5 k6=>
    rename_i ad len cap;refine fin (some ad) cap _ (by rw[Q,k1]) (by omega) y (by simp) ?_;intro X H;have hsubat:∀i j x,at2 ((ys.drop p).take (q-p)) i j=some x->i<q-p/\at2 ys (p+i) j=some x:=λi j x hx=>Qc hx;have G:((ys.drop p).take (q-p)).length=q-p:=by simp;omega
    have hrows:∀row∈(ys.drop p).take (q-p),row.length=J:=λrow hr=>k3 row (DG (Fg hr));have hne:(ys.drop p).take (q-p)≠[]->ys≠[]/\cap≠p:=by intro I;have:0<((ys.drop p).take (q-p)).length:=List.length_pos_iff.2 I;rw[G]at this;refine⟨by rintro rfl;simp at H;omega,by omega⟩
    have hV2:View w (F.R k) (.sl J ((ys.drop p).take (q-p))) (.slice (some (if cap=p then ad else ad.add (p*J))) (q-p) (cap-p)):=by
     have hadd:ad.spot=none->cap≠p->(if cap=p then ad else ad.add (p*J)).block=ad.block/\(if cap=p then ad else ad.add (p*J)).off=ad.off+p*J/\(if cap=p then ad else ad.add (p*J)).spot=none:=by intro hsp O;have ⟨b,of,sp⟩:=ad;simp only at hsp;subst hsp;simp[O,HV]
     refine .sl (λi j=>c (p+i) j) G.symm (by omega) hrows ?_ ?_ ?_;intro I;have ⟨e1,e2⟩:=hne I;have ⟨f1,f2⟩:=k4 e1;have ⟨g1,g2,g3⟩:=hadd f1 e2;exact⟨g3,by rw[g1];exact f2⟩;intro i j x hx;have ⟨m1,m2⟩:=hsubat i j x hx;have I:(ys.drop p).take (q-p)≠[]:=by intro I;rw[I]at G;simp at G;omega
     have ⟨e1,e2⟩:=hne I;have ⟨g1,g2,g3⟩:=hadd (k4 e1).1 e2;rw[g1,g2];have:=k5 _ _ _ m2;rw[Bc]at this;rw[<-this];congr 2;omega;intro i j x hx;exact k6 _ _ _ (hsubat i j x hx).2
    show View w (F.R k) _ _;by_cases O:cap=p;rw[AY O]at hV2 ⊢;exact hV2;rw[Aa O]at hV2 ⊢;exact hV2
 |.t x,L=>
  cases x with
  |nil=>
   simp only[St.elems,AE]at B;subst B;refine fin none 0 _ L (ER _) y (by simp) ?_;intro X H;simp only[AT]at H;have:p=0:=by omega
   subst this;have:q=0:=by omega
   subst this;rfl
  |_=>simp[St.elems]at B
 |.und,_=>simp[St.elems]at B|.ow _,_=>simp[St.elems]at B|.ep _ _ _,_=>simp[St.elems]at B|.vp _ _,_=>simp[St.elems]at B|.bp _ _,_=>simp[St.elems]at B|.fn _ _,_=>simp[St.elems]at B
 cases y;cases y;cases y
theorem AED{P}{w}{op}{t}{ox oy}{x y r}{vx vy}(H:Sc x vx)(I:Sc y vy)(c:iI op x y=some r) :
 ∃v,(do eqGuard op t ox oy vx vy;binOp op t vx vy:Sem Value).run P w=.ok v w/\Sc r v:=by
 match x,y,c with
 |.int k p,.int J q,c=>
  have h:vx=.int k p:=H;have j:vy=.int J q:=I;subst h j;have E:(eqGuard op t ox oy (.int k p) (.int J q)).run P w=.ok () w:=by cases op<;>simp[eqGuard]
  rw[Ao,E,D1];simp[iI,ALU]at c;cases op<;>simp only[AHT,eZ]at c;case shl=>split at c<;>simp at c;subst c;next e=>exact⟨_,by simp[binOp,Op.shift,e],rfl⟩
  case shr=>split at c<;>simp at c;subst c;next e=>exact⟨_,by simp[binOp,Op.shift,e],rfl⟩
  case quo=>split at c;split at c;simp at c;rename_i B e;subst B;cases c;exact⟨_,by simp[binOp,Op.intDiv,e],rfl⟩;simp at c
  case rem=>split at c;split at c;simp at c;rename_i B e;subst B;cases c;exact⟨_,by simp[binOp,Op.intDiv,e],rfl⟩;simp at c
  all_goals
   split at c;next B=>subst B;first
    |(cases c;exact⟨_,by simp[binOp,Op.intArith,Op.intBits,Op.intCmp],rfl⟩)
    |simp at c
   simp at c
 |.str p,.str q,c=>
  have h:vx=.string ⟨p.toArray⟩:=H;have j:vy=.string ⟨q.toArray⟩:=I;subst h j;have E:(eqGuard op t ox oy (.string ⟨p.toArray⟩) (.string ⟨q.toArray⟩)).run P w=.ok () w:=by cases op<;>simp[eqGuard]
  rw[Ao,E,D1];have G:∀s:List UInt8,(⟨s.toArray⟩:ByteArray).toList=s:=λs=>by rw[ByteArray.toList_eq]
  simp[iI,ALU]at c;cases op<;>simp at c;case add=>
   obtain⟨L,rfl⟩:=c;refine⟨.string ⟨(p++q).toArray⟩,?_,rfl⟩;have O:(⟨p.toArray⟩:ByteArray).size+(⟨q.toArray⟩:ByteArray).size<=9223372036854775807:=by simp[ByteArray.size,A7,QL]at *;omega
   rw[<-ByteArray.mk_append_mk];exact run_string_add_sum w _ _ O
  case eql=>subst c;exact⟨_,by simp[binOp,Op.stringOp,G],rfl⟩
  case neq=>subst c;exact⟨.bool (p != q),by simp[binOp,Op.stringOp,G,bne],rfl⟩
theorem AEp{ls}{ts}(h:Xn ls=some ts):ls=ts.map .t:=by
 induction ls generalizing ts with
 |nil=>simp[Xn]at h;subst h;rfl|cons l ls c=>cases l<;>simp[Xn,AM,reduceCtorEq]at h;grind
theorem mI:∀(m:Nat) {ks:List Kd} {as c:List T} {r:Bool},T5 ks as c=some r ->
 ∃p q,T5 (ks.take m) (as.take m) (c.take m)=some p/\T5 (ks.drop m) (as.drop m) (c.drop m)=some q/\r=(p&&q)
 |0,ks,as,c,r,h=>⟨true,r,by simp[T5],by simpa using h,by simp⟩|m+1,ks,as,c,r,h=>by
  match ks,as,c,h with
  | [],[],[],h=>simp[T5]at h;subst h;exact⟨true,true,by simp[T5],by simp[T5],rfl⟩|k::ks,a::as,b::c,h=>simp[T5]at h;split at h;rename_i p q y B;cases h;obtain⟨E,q',e,j,rfl⟩:=mI m B;exact⟨p&&E,q',by simp[T5,y,e],by simpa using j,by cases p<;>rfl⟩;cases h
def At(o:Nat)(xs:Array Value)(as:List T):Prop:=∀(c:Nat) x,as[c]?=some x->∃v,xs[o+c]?=some v/\Sc x v
theorem At.drop{o}{xs}(h:At o xs as) m :At (o+m) xs (as.drop m):=λc x e=>by rw[Bw]at e;have ⟨v,q,j⟩:=h _ _ e;exact⟨v,by rw[<-q];congr 1;omega,j⟩
theorem At.take{o}{xs}(h:At o xs as) m :At 0 (xs.extract o (o+m)) (as.take m):=λc x e=>by rw[CE]at e;split at e;have ⟨v,j,q⟩:=h _ _ e;have:=(BJ.1 j).1;exact⟨v,by rw[<-j,Array.getElem?_extract,AY (by omega)];congr 1;omega,q⟩;cases e
theorem zd{w:World}{i:TypeInfo}{xs:Array Value}{o:Nat}(c:P.underlying t=some (.struct fs))(hi:P.info? t=some i) :
 (part t xs o).run P w=.ok (.agg (xs.extract o (o+i.size))) w:=by simp_all[part,isAgg,run_underlying c,RO,go_sem,Go.sizeOf,typeInfo]
theorem AHR{P:Program}{w:World}{d:Nat}{sub:TypeId->List Kd->Bool}
 (Q:∀t ks as B r (xs ys:Array Value),sub t ks=true->T5 ks as B=some r->At 0 xs as->At 0 ys B->∃fs,P.underlying t=some (.struct fs)/\(Op.equalIn (d+1) t (.agg xs) (.agg ys)).run P w=.ok r w)
 {xs ys:Array Value} {fs:List Field} {ks:List Kd} {as B:List T} {r:Bool} {o:Nat} (e:R9 P sub o fs ks=true) (E:T5 ks as B=some r)
 (hx:At o xs as) (hy:At o ys B):(Op.eqFields (d+1) xs ys fs).run P w=.ok r w:=by
 induction fs generalizing ks as B r o with
 |nil=>cases ks<;>simp[R9]at e;cases as<;>cases B<;>simp[T5]at E;subst E;rfl
 |cons f fs ih=>
  simp only[R9,AD,DJ,beq_iff_eq,bne_iff_ne]at e;obtain⟨⟨h1,h2⟩,e⟩:=e;rcases e with e|e
  .match ks,e with
   |k::ks,e=>
   simp only[AD]at e;obtain⟨O,h4⟩:=e;match as,B,E with
   |x::as,y::B,E=>
   simp only[T5]at E;split at E;rename_i p q c hq;cases E;obtain⟨vx,X,G⟩:=hx 0 x rfl;obtain⟨vy,Y,H⟩:=hy 0 y rfl;have I:=ih h4 hq (hx.drop 1) (hy.drop 1);simp only[DV]at X Y;have key:∃Z,P.underlying f.type=some Z/\RO Z=false/\(Op.equalIn (d+1) f.type vx vy).run P w=.ok p w:=by
    unfold Aab at O;split at O;rename_i k0 h;match x,y,c with
    |.int k1 a,.int k2 b,c=>simp only[eqT]at c;split at c;rename_i hk;subst hk;cases c;have J:vx=_:=G;have L:vy=_:=H;subst J L;exact⟨_,h,rfl,run_equalIn_int w d f.type k1 k0 a b h⟩;cases c
    rename_i h;match x,y,c with
    |.bool a,.bool b,c=>simp only[eqT,AE]at c;subst c;have J:vx=_:=G;have L:vy=_:=H;subst J L;exact⟨_,h,rfl,run_equalIn_bool w d f.type a b h⟩
    rename_i h;match x,y,c with
    |.str a,.str b,c=>simp only[eqT,AE]at c;subst c;have J:vx=_:=G;have L:vy=_:=H;subst J L;refine⟨_,h,rfl,?_⟩;have:=run_equalIn_string (P:=P) w d f.type ⟨a.toArray⟩ ⟨b.toArray⟩ h;rw[this,ByteArray.toList_eq,ByteArray.toList_eq]
    cases O
   obtain⟨Z,h,hag,j⟩:=key;have hpart:∀(zs:Array Value) v,zs[o]?=some v->(part f.type zs f.offset).run P w=.ok v w:=by intro zs v hz;rw[h2];cases Z<;>simp_all[part,isAgg,run_underlying h,RO,go_sem]
   simp only[Op.eqFields];rw[AY h1];simp only[Ao,hpart xs vx X,hpart ys vy Y,j,D1];cases p with
   |true=>simpa using I|false=>simp
   cases E
  split at e;rename_i i hi;simp only[AD]at e;obtain⟨O,h4⟩:=e;obtain⟨p,q,c,hq,rfl⟩:=mI i.size E;obtain⟨gs,h,j⟩:=Q _ _ _ _ _ _ _ O c (hx.take i.size) (hy.take i.size);have I:=ih h4 hq (hx.drop i.size) (hy.drop i.size);simp only[Op.eqFields];rw[AY h1,h2];simp only[Ao,zd h hi,j,D1];cases p with|true=>simpa using I|false=>simp
  cases e
theorem AKz{P}{w}:∀(n d:Nat) t ks as e r (xs ys:Array Value),AC0 P n t ks=true->T5 ks as e=some r->At 0 xs as->At 0 ys e ->
 ∃fs,P.underlying t=some (.struct fs)/\(Op.equalIn (d+n+1) t (.agg xs) (.agg ys)).run P w=.ok r w
 |0,_,_,_,_,_,_,_,_,h,_,_,_=>by cases h
 |n+1,d,t,ks,as,e,r,xs,ys,h,q,y,B=>by
  simp[AC0]at h;split at h;rename_i fs j;simp[AD,BE]at h;have c:P.fieldsOf t=fs:=by simp[Program.fieldsOf,j]
  refine⟨fs,j,?_⟩;rw[show d+(n+1)+1=(d+n+1)+1 from by omega,run_equalIn_struct w (d+n+1) t xs ys (by rw[c];exact j) h.2,c];exact AHR (AKz n d) h.1 q y B;cases h
theorem AZk{r}{v c}(e:cQ r=false)(h:Sc r v)(j:Sc r c):v=c:=by
 cases r with
 |top=>cases e
 |un=>cases e
 |sl=>exact h.elim|mp=>exact h.elim|_=>exact(Eq.trans (show v=_ from h) (show c=_ from j).symm)
theorem mH{b}(h:pe op b=some r):cQ r=false:=by unfold pe at h;split at h<;>cases h<;>rfl
theorem AL3{x y}(h:eZ op k x y=some r):cQ r=false:=by unfold eZ at h;split at h<;>first|(cases h;rfl)|(split at h<;>first|(cases h;done)|(cases h;rfl))|(cases h;done)
theorem AVH{x y}(h:AHT op k x y=some r):cQ r=false:=by unfold AHT at h;split at h;cases h;split at h<;>cases h<;>rfl
theorem AOV{x y}(h:ALU op x y=some r):cQ r=false:=by unfold ALU at h;split at h;grind[AVH,AL3];split at h;split at h<;>cases h;rfl;cases h;rfl;cases h;rfl;cases h;split at h<;>cases h<;>rfl;cases h
theorem AWF{c}{x y}(h:S.bin c op x y=some r):cQ r=false:=by
 unfold St.bin at h;split at h;split at h;unfold iI at h;split at h<;>first|exact AOV h|cases h
 cases h;grind[mH];grind[mH];grind[mH]
theorem AG3(h:Inv F S g a w){c:Cls}{oy:Operand}{x y:Opd}(hd:d<F.N)(G:ev (.bin d c op x y) S=some S')(I:AAw F.P c t=true)(hox:CH ox x=true)(hoy:CH oy y=true)
 (hmx:∀p∈CK ox x,Mt F.A F.P p.1 p.2) (hmy:∀p∈CK oy y,Mt F.A F.P p.1 p.2) :
 ∃v g',(∀w1:World,(do eqGuard op t ox oy (a.eval ox) (a.eval oy);binOp op t (a.eval ox) (a.eval oy):Sem Value).run F.P w1=.ok v w1)/\Inv F S' g' (a.put (some d) v) w:=by
 simp[ev]at G;split at G;rename_i ex ey hrx hry;split at G;rename_i r j;have rx:=QE h hrx hox hmx;have ry:=QE h hry hoy hmy;have one:∀{l:AS} {v:Value},Rd F S g w ⟨.one,[l]⟩ v->Bz F S g w (λ_=>False) l v:=by
  rintro l v ⟨vs,h1,h2,_,h4⟩;have ⟨u,E,Y⟩:=h4 0 _ rfl;subst h1;cases vs with
  |nil=>simp at E|cons v vs=>simp[AN,AE]at E;subst E;exact Y
 suffices hs:∀w1:World,∃v,(do eqGuard op t ox oy (a.eval ox) (a.eval oy);binOp op t (a.eval ox) (a.eval oy):Sem Value).run F.P w1=.ok v w1/\Sc r v by have ⟨v,h1,h2⟩:=hs w;have ⟨g',Q⟩:=MX h hd G h2;refine⟨v,g',λw1=>?_,Q⟩;have ⟨v1,h3,h4⟩:=hs w1;rw[h3,AZk (AWF j) h4 h2]
 intro w1;unfold St.bin at j;cases c with
 |num=>simp at j;split at j;exact AED (one rx) (one ry) j;cases j
 |bool=>
  simp at j;split at j;rename_i p q;have Z:a.eval ox=.bool p:=one rx;have e2:a.eval oy=.bool q:=one ry;rw[Z,e2];have E:F.P.underlying t=some .bool:=by unfold AAw at I;split at I<;>simp_all
  have Q:(eqGuard op t ox oy (.bool p) (.bool q)).run F.P w1=.ok () w1:=by cases op<;>simp[eqGuard]
  rw[Ao,Q,D1];cases op<;>simp[pe]at j;subst j;exact⟨_,run_eql_bool w1 t p q E,rfl⟩;subst j;exact⟨_,run_neq_bool w1 t p q E,rfl⟩;cases j
 |sl=>
  simp at j;split at j;rename_i l;split at j;rename_i b B;have e2:a.eval oy=.slice none 0 0:=one ry;rw[e2];have E:∃e,F.P.underlying t=some (.slice e):=by unfold AAw at I;split at I<;>simp_all
  have ⟨e,E⟩:=E;have hnil:∃ad n c,a.eval ox=.slice ad n c/\ad.isNone=b:=by
   match l,one rx,B with
   |.t x,hl,B=>cases x<;>simp[St.XS]at B;subst B;exact⟨none,0,0,hl,rfl⟩
   |.vw _ e' [],_,B=>simp[St.XS]at B|.vw (.own r' _) e' (_::xs),⟨_,⟨S0,_,hO⟩,_⟩,B=>
    simp[St.XS,AE]at B;subst B;generalize a.eval ox=v at hO;cases hO with
    |sc X _ _=>exact X.elim|sl=>exact⟨_,_,_,rfl,rfl⟩
   |.vw (.old k) e' (_::xs),hl,B=>
    simp[St.XS,AE]at B;subst B;have hV:View w (F.R k) (.sl e' (_::xs)) (a.eval ox):=hl;generalize a.eval ox=v at hV;cases hV with
    |sc X=>exact X.elim|sl=>exact⟨_,_,_,rfl,rfl⟩
   |.al r' none,⟨x,u,q1,q2,q3⟩,B=>
    have q3':a.eval ox=u:=q3;have ⟨u',hu',L⟩:=h.C6 r' _ q1;rw[q2]at hu';cases hu';simp[St.XS,q1]at B;split at B;simp at B;subst B;next H=>cases H;cases L with|sc X _ _=>exact⟨none,0,0,q3'.trans X,rfl⟩
    simp at B;subst B;next H=>cases H;cases L with|sc X _ _=>exact X.elim|sl=>exact⟨_,_,_,q3',rfl⟩
    cases B
   |.al r' (some _),_,B=>simp[St.XS]at B
  have ⟨ad,n,cp,Z,hb'⟩:=hnil;rw[Z];have Q:(eqGuard op t ox oy (.slice ad n cp) (.slice none 0 0)).run F.P w1=.ok () w1:=by cases op<;>simp[eqGuard]
  rw[Ao,Q,D1];cases op<;>simp[pe]at j;subst j;rw[<-hb'];exact⟨_,Lib.run_eql_slice_nil w1 t e ad n cp 0 0 E,rfl⟩;subst j;rw[<-hb'];exact⟨_,run_neq_slice_nil w1 t e ad n cp E,rfl⟩;cases j;cases j
 |agg ks=>
  simp at j;split at j;rename_i as bs;split at j;rename_i as' bs' ha B;split at j;rename_i b H;have ea:=AEp ha;have eb:=AEp B;subst ea eb;have J:∃fs,F.P.underlying t=some (.struct fs)/\(AC0 F.P 4 t ks&&!F.P.eqGuardType F.P.depth t)=true:=by
   unfold AAw at I;cases E:F.P.underlying t with
   |none=>simp[E]at I|some dd=>rw[E]at I;cases dd<;>first|exact⟨_,rfl,I⟩|simp at I
  have ⟨fs,E,J⟩:=J;simp[AD,BE]at J;have ⟨hf,hgd⟩:=J;have cells:∀{ts:List T} {v:Value},Rd F S g w ⟨.agg,ts.map .t⟩ v->∃xs:Array Value,v=.agg xs/\At 0 xs ts:=by rintro ts v ⟨vs,h1,_,_,h4⟩;refine⟨vs.toArray,h1,λc x hx=>?_⟩;have ⟨u,E,Y⟩:=h4 c (.t x) (by simp[hx]);exact⟨u,by simpa using E,Y⟩
  have ⟨xs,Z,hxs⟩:=cells rx;have ⟨ys,e2,hys⟩:=cells ry;rw[Z,e2];have Q:(eqGuard op t ox oy (.agg xs) (.agg ys)).run F.P w1=.ok () w1:=run_eqGuard_agg w1 op t ox oy xs ys hgd;rw[Ao,Q,D1];have O:(Op.equalIn 10000 t (.agg xs) (.agg ys)).run F.P w1=.ok b w1:=(AKz 4 9995 _ _ _ _ _ _ _ hf H hxs hys).choose_spec.2;cases op<;>simp[pe]at j;subst j;exact⟨.bool b,(by rw[run_eql_struct,O];rfl),rfl⟩;subst j;exact⟨.bool !b,(by rw[run_neq_struct,O];rfl),rfl⟩;cases j;cases j;cases j
 cases G;cases G
theorem AL7{ns}{vs:List Value}{i:Nat}{n:Option Nat}(h:ns[i]?=some n):(IP ns vs)[i]?=some (mkV (shN n) ((vs.drop (VY (ns.take i))).take (Dx n))):=by
 induction ns generalizing vs i with
 |nil=>simp at h|cons m ns c=>
  cases i with
  |zero=>
   simp[AN,AE]at h;subst h;cases m with
   |none=>cases vs<;>simp[IP,mkV,shN,Dx,VY]
   |some k=>simp[IP,mkV,shN,Dx,VY]
  |succ i=>
   simp[CG]at h;cases m with
   |none=>simp only[IP,CG,Cs,VY,Dx];rw[c h,DD];rfl|some k=>simp[IP,CG,Cs,VY,Dx];rw[c h,DD];rfl
theorem AG8(h:Inv F S g a w){i:Nat}{o:Operand}{x:Opd}(hd:d<F.N)(j:ev (.ext d x i) S=some S')(E:CH o x=true) :
 ∃v g',(∀w1:World,(Instr.extract (a.eval o) i).run F.P w1=.ok v w1)/\Inv F S' g' (a.put (some d) v) w:=by
 simp[ev]at j;split at j;next s=>match o,E with
 |.tmp t,E=>
  simp[CH,beq_iff_eq]at E;subst E;split at j;rename_i ns cs X;split at j;rename_i n hn;split at j;rename_i hle;split at j;rename_i S1 ls L;have ⟨_,Y,Z⟩:=h.tms t _ X;have J:Rd F S g w ⟨shN n,((T9 t 0 cs).drop (VY (ns.take i))).take (Dx n)⟩ (mkV (shN n) (((g.tv t).drop (VY (ns.take i))).take (Dx n))):=by
   refine⟨_,rfl,by simp[AAX,Z],?_,?_⟩;intro x O;have O:=DG (Fg O);have ⟨c,y⟩:=B0 O;rw[Xy,AM]at y;have ⟨l,_,q⟩:=y;exact AOK q;intro c l q;simp only[CE,Bw]at q ⊢;split at q;rename_i y;rw[Xy,AM]at q;obtain⟨l0,H,rfl⟩:=q;have B:S.at (.tmp t (VY (ns.take i)+c))=some l0:=by simp[St.at,X,H]
   have ⟨v,G,I⟩:=h.C6 _ _ B;exact⟨v,by rw[AY y];exact G,by simpa using AOJ rfl B G I⟩;cases q
  have ⟨vs,nf,h4,hi,y,_⟩:=ag h J L;have ⟨g',Q⟩:=hi.Eo (e:=⟨shN n,ls⟩) j hd y;refine⟨_,g',?_,by rw[<-h4]at Q;exact Q⟩;have G:a.eval (.tmp t)=.tuple (IP ns (g.tv t)).toArray:=Y;rw[G];have:=AL7 (vs:=g.tv t) hn;simp[Instr.extract,this];cases j;cases j;cases j;cases j
 cases j
theorem ze{w}{d}{xs}{o}(c:P.underlying t=some d)(e:RO d=false)(h:xs[o]?=some v):(part t xs o).run P w=.ok v w:=by cases d<;>simp_all[part,isAgg,run_underlying c,RO,go_sem]
theorem ATm{fp}{l}{v}(c:l.plain=true)(h:Bz F S g w fp l v):GA F g w l v:=by
 match l,h with
 |.t _,h=>exact h|.und,h=>exact h|.vw (.old _) _ _,h=>exact h|.vp (.old _) _,h=>exact h|.bp _ _,h=>exact h|.vw (.own _ _) _ _,_=>cases c
 |.vp (.own _ _) _,_=>cases c
 |.ow _,_=>cases c
 |.al _ _,_=>cases c
 |.ep _ _ _,_=>cases c
 |.fn _ _,_=>cases c
theorem AG9(h:Inv F S g a w){off f:Nat}{n:Option Nat}{fl:Field}{o:Operand}{x:Opd}(hd:d<F.N)(j:ev (.fld d off n x) S=some S')(J:F.P.underlying t=some (.struct fs))(B:fs[f]?=some fl)
 (q:fl.offset=off) (y:Jn F.P fl.type n=true) (ho:CH o x=true) (hm:∀p∈CK o x,Mt F.A F.P p.1 p.2) :
 ∃v g',(∀w1:World,(Instr.field t (a.eval o) f).run F.P w1=.ok v w1)/\Inv F S' g' (a.put (some d) v) w:=by
 simp[ev]at j;split at j;rename_i cs hrx;split at j;rename_i Y;have ⟨vs,h1,L,h3,h4⟩:=QE h hrx ho hm;have hv:a.eval o=.agg vs.toArray:=h1;have O:Cells F S g w ((cs.drop off).take (Dx n)) ((vs.drop off).take (Dx n)) λ_ _=>False:=by refine Cells.free (by simp at L;simp[L]) ?_ (λx hx=>h3 x (DG (Fg hx)));intro c l I;simp only[CE,Bw]at I ⊢;split at I;rename_i O;have ⟨u,J,hok⟩:=h4 _ l I;exact⟨u,by rw[AY O];exact J,hok⟩;cases I
 have ⟨g',hg⟩:=h.Eo (e:=⟨shN n,(cs.drop off).take (Dx n)⟩) j hd O;refine⟨_,g',?_,hg⟩;rw[hv];simp at L;unfold Jn at y;split at y;next dsc i H hi=>cases n with
 |some k=>
  simp[AD,beq_iff_eq]at y;have ⟨hst,hk⟩:=y;subst hk;obtain⟨fs',rfl⟩:∃fs,dsc=.struct fs:=by cases dsc<;>simp[SE]at hst;exact⟨_,rfl⟩
  have Q:vs.toArray.extract off (off+i.size)=((vs.drop off).take i.size).toArray:=by simp[Hs]
  simp[Instr.field,run_underlying J,B,q,asAgg,part,isAgg,run_underlying H,IA hi,Q,mkV,shN,Dx,go_sem]
 |none=>
  simp[AD,beq_iff_eq,BE]at y;simp[Dx]at Y;have G:off<vs.length:=by omega
  have E:vs.toArray[off]?=some vs[off]:=by simp[G]
  have X:((vs.drop off).take 1).headD undef=vs[off]:=by rw[List.drop_eq_getElem_cons G];rfl
  intro w1;have hp:=ze (P:=F.P) (w:=w1) (xs:=vs.toArray) (o:=off) H y.1 E;have Z:mkV (shN none) ((vs.drop off).take (Dx none))=vs[off]:=X;rw[Z];simp[Instr.field,run_underlying J,B,q,asAgg,hp]
 cases y;cases j;cases j
theorem AHN(h:Inv F S g a w){os}{xs}{es}(j:S.rds xs=some es)(c:RP os xs=true)(B:∀p∈FO os xs,Mt F.A F.P p.1 p.2) :
 es.length=os.length/\∀(i:Nat) e,es[i]?=some e->∃o,os[i]?=some o/\Rd F S g w e (a.eval o):=by
 induction os generalizing xs es with
 |nil=>grind[RP,St.rds]
 |cons o os L=>
  cases xs with
  |nil=>simp[RP]at c|cons x xs=>
   simp[RP,AD]at c;simp[St.rds]at j;split at j;next e G J q=>cases j;have ⟨H,I⟩:=L q c.2 (λp y=>B p (by simp[FO,y]));refine⟨by simp[H],λi E hi=>?_⟩;cases i with|zero=>simp[AN,AE]at hi;subst hi;exact⟨o,rfl,QE h J c.1 (λp y=>B p (by simp[FO,y]))⟩|succ i=>simpa using I i E (by simpa using hi)
   cases j
theorem zD(h:Inv F S g a w){fn:Nat}{f:CQ}{os:Array Operand}{xs:List Opd}(hd:d<F.N)(q:ev (.O0 d f xs) S=some S')(ho:RP os.toList xs=true)(hm:∀p∈FO os.toList xs,Mt F.A F.P p.1 p.2)(hf:Mt F.A F.P fn f) :
 ∃g',Inv F S' g' (a.put (some d) (.func (.func fn) #[] (os.map a.eval))) w:=by
 simp only[ev]at q;split at q;rename_i es J;split at q;rename_i j;have ⟨h1,h2⟩:=AHN h J ho hm;simp[B2,AD,beq_iff_eq]at j;refine SY h hd q (by simp) ⟨fn,os.map a.eval,rfl,hf,?_,?_⟩;simp only[Mp];have:(es.flatMap Ent.cs).length=es.length:=by
  clear h1 h2 J q;induction es with
  |nil=>rfl|cons e es ih=>simp only[CV,List.length_append,AK];rw[ih (λx I=>j x (Am _ I)),(j e (by simp)).1.2];omega
 rw[this,h1];simp;intro i l c B hc;have L:∀(es:List Ent),(∀x∈es,x.cs.length=1)->∀(i:Nat) l,(es.flatMap Ent.cs)[i]?=some l->∃e,es[i]?=some e/\e.cs=[l]:=by
  intro es;induction es with
  |nil=>intro _ i l B;simp at B
  |cons e es ih=>
   intro E i l B;have ⟨x,I⟩:=List.length_eq_one_iff.1 (E e (by simp));simp[CV,I,A8,Az]at B;cases i with
   |zero=>simp[AN,AE]at B;subst B;exact⟨e,rfl,I⟩|succ i=>simpa using ih (λy hy=>E y (Am _ hy)) i l (by simpa using B)
 have ⟨e,X,G⟩:=L es (λx I=>(j x I).1.2) i l B;have ⟨o,Y,vs,q1,q2,q3,q4⟩:=h2 i e X;have ⟨u,hu,Z⟩:=q4 0 l (by simp[G]);have Q:c=a.eval o:=by rw[Array.getElem?_map,AM]at hc;obtain⟨o',H,rfl⟩:=hc;rw[<-Array.getElem?_toList]at H;rw[Y]at H;cases H;rfl
 have hpl:=(j e (A4 X)).2 l (by simp[G]);have hsh:a.eval o=u:=by
  have O:vs.length=1:=by rw[q2,G];rfl
  match vs,O with
  | [v0],_=>simp[AN,AE]at hu;subst hu;have:=(j e (A4 X)).1.1;rw[q1];cases hse:e.sh<;>simp[hse,ADO]at this;rfl
 rw[Q,hsh];exact ATm hpl Z;cases q;cases q
theorem TD cs  off k  cells  :
 ((cs.zipIdx k).foldl (λ(xs:Array Value) (p:Value×Nat)=>xs.setIfInBounds (off+p.2) p.1) cells).toList=ES cells.toList (off+k) cs:=by
 induction cs generalizing k cells with
 |nil=>rfl|cons c cs e=>simp[List.zipIdx_cons,List.foldl_cons,e,ES,Hq];rfl
def Et(F:Fix)(S:St)(g:Gh)(w:World)(ls:List AS)(vs:List Value):Prop:=
 vs.length=ls.length/\(∀x,AS.ow x∉ls)/\∀(c:Nat) (l:AS),ls[c]?=some l->∃u,vs[c]?=some u/\Bz F S g w (λ_=>False) l u
theorem Et.set{ls cs}{vs us}{o}(h:Et F S g w ls vs)(j:Et F S g w cs us)(c:o+cs.length<=ls.length):Et F S g w (ES ls o cs) (ES vs o us):=by have ⟨e,G,H⟩:=h;have ⟨y,B,E⟩:=j;have I:=Gu ls o cs c;have q:=Gu vs o us (by omega);refine⟨by simp[QJ,e],?_,?_⟩;grind[List.getElem?_of_mem,List.mem_of_getElem?];grind
theorem ASv ls :I6 ls=false->∀l∈ls,l≠.t .top/\l≠.und:=by
 induction ls with
 |nil=>simp|cons x ls j=>
  intro c l h;cases Ae.1 h with
  |inl e=>subst e;constructor<;>(rintro rfl;simp[I6]at c)
  |inr e=>exact j (by unfold I6 at c;split at c<;>simp_all) l e
theorem AUy(h:Inv F S g a w){e}(O:Rd F S g w e v)(G:e.cs.length=n)(Q:Hz e.sh n=true)(Z:I6 e.cs=false):Et F S g w e.cs v.cells.toList/\v.cells.size=n:=by
 have ⟨vs,H,y,I,E⟩:=O;have q:∀v∈vs,v.oneCell'=true:=by
  intro u X;have ⟨c,J⟩:=B0 X;have B:c<e.cs.length:=by rw[<-y];exact(AO.1 J).1
  have ⟨u',Y,L⟩:=E c e.cs[c] (by simp[B]);grind[ASv,List.getElem_mem,ADT]
 have j:=cg Q (y.trans G) q;rw[H];exact⟨by rw[j];exact⟨y,I,E⟩,by rw[<-Bi,j,y,G]⟩
theorem AKD(h:Inv F S g a w){fs:Array Field}{places:List (Nat×Nat)}(I:∀(i:Nat) f t,fs[i]?=some f->F.P.info? f.type=some t->places[i]?=some (f.offset,t.size)) :
 ∀(ps:List (Nat×Operand)) (qs:List (Nat×Nat×Opd)) (ls ls':List AS) (cells:Array Value),R8 F.P fs ps qs=true->(∀p∈PJ ps qs,Mt F.A F.P p.1 p.2)->OI S ls qs=some ls'->Et F S g w ls cells.toList ->
  ∃cells',Instr.fill (places.toArray[·]?) cells (ps.map λp=>(p.1,a.eval p.2))=some cells'/\Et F S g w ls' cells'.toList
 | [],qs,ls,ls',cells,E,_,c,q=>by cases qs<;>simp[R8]at E;simp[OI,AE]at c;subst c;exact⟨cells,rfl,q⟩
 |(i,o)::ps,qs,ls,ls',cells,E,hm,c,q=>by
  match qs,E with
  |(off,n,x)::qs,E=>
   simp[R8,AD]at E;have ⟨⟨j,J⟩,L⟩:=E;split at j;rename_i f Q;simp[AD,beq_iff_eq]at j;have ⟨H,y⟩:=j;split at y;rename_i t ht;simp[beq_iff_eq]at y;simp[OI]at c;split at c;rename_i e he;split at c;rename_i hc;have ⟨c1,c2,c3,c4⟩:=hc;have Y:=QE h he J (λp X=>hm p (by simp[PJ,X]));have ⟨O,Z⟩:=AUy h Y c1 c2 c3;have B:=q.set O (o:=off) (by omega);have hfold:((a.eval o).cells.zipIdx.foldl (λcs (p:Value×Nat)=>cs.setIfInBounds (off+p.2) p.1) cells).toList=ES cells.toList off (a.eval o).cells.toList:=by rw[<-Array.foldl_toList,Array.toList_zipIdx];exact TD _ off 0 cells
   rw[<-hfold]at B;have ⟨cells',hfill,G⟩:=AKD h I ps qs _ _ _ L (λp X=>hm p (by simp[PJ,X])) c B;refine⟨cells',?_,G⟩;simp only[List.map_cons,Instr.fill,BU,I i f t Q ht,H,y];have hle:¬(off+(a.eval o).cells.size>cells.size):=by have:=q.1;simp[Bi]at this;omega
   rw[Aa (by simp[Z];omega)];simpa[BU] using hfill;cases c;cases c;cases y;cases j
theorem nc(h:Inv F S g a w){fs:Array Field}{ps:Array (Nat×Operand)}{qs:List (Nat×Nat×Opd)}(Q:d<F.N)(c:ev (.build d zs qs) S=some S')(hz:dX F.P t zs=true)
 (hu:F.P.underlying t=some (.struct fs)) (E:fs.toList.all (λf=>(F.P.info? f.type).isSome)=true) (X:R8 F.P fs ps.toList qs=true) (Z:∀p∈PJ ps.toList qs,Mt F.A F.P p.1 p.2) :
 ∃v g',(∀w1:World,(Instr.build t (ps.map λ(i,x)=>(i,a.eval x))).run F.P w1=.ok v w1)/\Inv F S' g' (a.put (some d) v) w:=by
 simp[ev]at c;split at c;rename_i ls I;have ⟨i,v,hi,J,_,_,L⟩:=zeroCells (F:=F) (S:=S) (g:=g) (w:=w) hz;have hplaces:∀(l:List Field),l.all (λf=>(F.P.info? f.type).isSome)=true->∃places,l.mapM (λf=>(F.P.info? f.type).map λi=>(f.offset,i.size))=some places /\
  ∀(i:Nat) f t,l[i]?=some f->F.P.info? f.type=some t->places[i]?=some (f.offset,t.size):=by
  intro l;induction l with
  |nil=>intro _;exact⟨[],rfl,by simp⟩
  |cons f l ih=>
   intro H;simp only[List.all_cons,AD]at H;have ⟨t,G⟩:=Bq.1 H.1;have ⟨pl,q,y⟩:=ih H.2;refine⟨(f.offset,t.size)::pl,by simp[List.mapM_cons,G,q],?_⟩;intro i O t' hi B;cases i with
   |zero=>simp[AN,AE]at hi;subst hi;rw[G]at B;cases B;rfl
   |succ i=>simpa using y i O t' (by simpa using hi) B
 have ⟨places,q,y⟩:=hplaces fs.toList E;have ⟨cells',hfill,j⟩:=AKD h (fs:=fs) (places:=places) (λi f t hi G=>y i f t (by simpa using hi) G) ps.toList qs (zs.map .t) ls v.cells X Z I ⟨L.1,by simp,L.2.1⟩;have ⟨g',Y⟩:=h.Eo (e:=⟨.agg,ls⟩) c Q (Cells.free j.1 j.2.2 j.2.1);refine⟨_,g',λw1=>run_build w1 t _ cells' ?_,by simpa[mkV] using Y⟩;simp[Program.built,hi,hu,J,q];rw[<-hfill];congr 1;simp;cases c
theorem Inv.newRow(h:Inv F S g a w){x}{S0}(O:d<F.N)(Y:S.Eo d ⟨.one,[.ow x]⟩=some S')(Z:Still w w')(hw:∀b,b<w.heap.size->w'.heap[b]?=w.heap[b]?)(X:Own w' x v S0)
(hS:∀b,S0 b->w.heap.size<=b\/((¬F.K b)/\(∀r,CP S r->¬g.fp r b)/\∀id,(get S.bx id).isSome->b≠g.β id)):∃g',Inv F S' g' (a.put (some d) v) w':=by
 have L:=h.grow Z hw;refine L.Eo (vs:=[v]) (nf:=λ_=>S0) Y O ⟨rfl,?_,?_⟩;intro c l B;cases c with|zero=>simp only[AN,AE]at B;subst B;exact⟨v,rfl,X⟩|succ c=>simp at B
 intro c y hy;refine⟨λb j hK=>?_,λr J b j I=>?_,λid q j=>?_,λc' y' hy' Q=>?_⟩;rcases hS b j with j|j;exact absurd (BZ (h.rlt b hK) h.size) (by omega);exact j.1 hK;rcases hS b j with e|e;have ⟨x,hx⟩:=J;have ⟨u,_,H⟩:=h.C6 r _ hx;exact absurd (Own.lt H b I) (by omega);exact e.2.1 r J I;rcases hS _ j with e|e;have ⟨ls,G⟩:=Bq.1 q;have ⟨⟨E,hE⟩,_⟩:=h.bxs id ls G;exact absurd (BJ.1 hE).1 (by omega);exact e.2.2 id q rfl;grind
theorem ADo{e:Nat}{xs}{blk off cap:Nat}{arr:Array Value}{E:TypeId}(y:F4 w blk arr E e)(h:xs.length<=cap)(q:∀row∈xs,row.length=e)(c:off+cap*e<=arr.size)
(B:∀i j x,at2 xs i j=some x->∃v,arr[off+i*e+j]?=some v/\Own w x v λ_=>False):Own w (.sl e xs) (.slice (some ⟨blk,off,none⟩) xs.length cap) (λb=>b=blk):=by refine .sl (λi j=>(arr[off+i*e+j]?).getD undef) (λ_ _ _=>False) rfl h q y c ?_ ?_ (by simp) (by simp) (by simp);grind;grind
theorem iF{i j:Nat}{x:T}(h:at2 (rowsOf n zs) i j=some x):i<n/\zs[j]?=some x:=by grind[at2,rowsOf]
theorem Wn{z}{i j}(c:z[j]?=some v)(hi:i<n):(madeCells z (n*z.size))[i*z.size+j]?=some v:=by
 have ⟨e,q⟩:=BJ.1 c;have h:i*z.size+j<n*z.size:=by have:(i+1)*z.size<=n*z.size:=Ap _ hi;grind[Nat.add_mul]
 grind[Nat.add_comm,Nat.add_mul_mod_self_right,Nat.mod_eq_of_lt,madeCells,Option.some.injEq]
theorem ALa{x}(h:Sx v x=true):T1 x=false:=by
 unfold Sx at h;split at h;next y _=>cases x<;>first|rfl|(cases y<;>simp[AWi]at h)
 cases h
theorem AE6{vs}{zs}(h:bB vs zs=true):vs.length=zs.length/\∀(c:Nat) x,zs[c]?=some x->∃v,vs[c]?=some v/\Own w x v λ_=>False:=by
 induction vs generalizing zs with
 |nil=>cases zs<;>simp_all[bB]
 |cons v vs B=>
  cases zs with
  |nil=>simp[bB]at h|cons z zs=>
   simp[bB,AD,DJ]at h;have ⟨q,y⟩:=B h.2;refine⟨by simp[q],λc x j=>?_⟩;cases c with
   |zero=>
    simp[AN,AE]at j;subst j;refine⟨v,rfl,?_⟩;rcases h.1 with e|e;exact .sc (YI e) ((YI e).one (ALa e)) (by simp);unfold AKe at e;split at e;exact .nl (by simp);cases e
   |succ c=>simpa using y c x (by simpa using j)
def AU7(P:Program)(t:TypeId):Array Value×Unit:=(match P.info? t with|some i=>(match i.zero with|some v=>v.cells|none=>#[])|none=>#[],())
theorem aG(h:AEB P t zs=true):∃i v,P.info? t=some i/\i.zero=some v/\i.size=zs.length/\v.cells.size=zs.length /\
 ∀(c:Nat) x,zs[c]?=some x->∃u,v.cells[c]?=some u/\Own w x u λ_=>False:=by unfold AEB at h;split at h;rename_i i hi;simp[AD,beq_iff_eq]at h;have ⟨e,j⟩:=h;split at e;rename_i v B;have ⟨q,y⟩:=AE6 (w:=w) e;grind;cases e;cases h
theorem zE(h:Inv F S g a w){on oc:Operand}{n c:Opd}(hd:d<F.N)(e:ev (.T6 d zs n c) S=some S')(he:GZ F.P t zs.length=true)(hu:F.P.underlying t=some (.slice el))
 (hz:AEB F.P el zs=true) (hon:CH on n=true) (hoc:CH oc c=true) (hmn:∀p∈CK on n,Mt F.A F.P p.1 p.2) (Z:∀p∈CK oc c,Mt F.A F.P p.1 p.2) :
 ∃v w' g',(Instr.makeSlice t (a.eval on) (a.eval oc)).run F.P w=.ok v w'/\Inv F S' g' (a.put (some d) v) w'/\∀b,b<w.heap.size->w'.heap[b]?=w.heap[b]?:=by
 simp[ev]at e;split at e;rename_i k q hn hc;split at e;rename_i hcond;obtain⟨rfl,h0,h1⟩:=hcond;have ⟨kn,Y⟩:=VF h hn hon hmn;have ⟨kc,X⟩:=VF h hc hoc Z;have ⟨el',ti,H,B,G,hby,hpos⟩:=Hf he;rw[hu]at H;cases H;have ⟨i,z,hi,O,his,L,I⟩:=aG (w:=World.push w (.cells ((λz=>madeCells z (q.toNat*ti.size)) (AU7 F.P el).1) el (0,0))) hz;rw[B]at hi;cases hi;have J:(AU7 F.P el).1=z.cells:=by simp[AU7,B,O]
 rw[J]at I;rw[Y,X];have hlim:q<=268435456:=h1;have y:=run_make (P:=F.P) w t el ti z hu B O kn kc q q h0 (Int.le_refl _) (by have:(ti.bytes:Int)*q<=65536*268435456:=Int.mul_le_mul (by omega) hlim h0 (by omega);omega) (by omega);have hw':(w.alloc (.cells (madeCells z.cells (q.toNat*ti.size)) el))=World.push w (.cells (madeCells z.cells (q.toNat*ti.size)) el (0,0)):=rfl;rw[hw']at y;have ⟨g',hg⟩:=h.newRow (w':=World.push w (.cells (madeCells z.cells (q.toNat*ti.size)) el (0,0))) (v:=.slice (some ⟨w.heap.size,0,none⟩) (rowsOf q.toNat zs).length q.toNat) (S0:=λb=>b=w.heap.size) hd e
  Still.push (λb Q=>Fe Q)
  (ADo (arr:=madeCells z.cells (q.toNat*ti.size)) (E:=el) (.of MW) (by simp[rowsOf]) (by intro row hr;simp[rowsOf]at hr;rw[hr.2]) (by simp[madeCells,G]) (by intro i j x hx;have ⟨hi,hj⟩:=iF hx;have ⟨v,hv',hs⟩:=I j x hj;refine⟨v,?_,hs⟩;have:=Wn (n:=q.toNat) hv' hi;rw[L]at this;rw[G,A1];exact this))
  (λb Q=>.inl (by omega))
 refine⟨_,_,g',y,?_,λb Q=>Fe Q⟩;simpa[rowsOf] using hg;cases e;cases e
theorem qS{s:List UInt8}{i j:Nat}{x:T}(h:at2 (LZ s) i j=some x):∃b,s[i]?=some b/\j=0/\x=.int .u8 b.toNat:=by grind[at2,LZ]
theorem zA(h:Inv F S g a w){s:TypeId}{o:Operand}{x:Opd}(hd:d<F.N)(y:ev (.OK d x) S=some S')(ho:CH o x=true)(hm:∀p∈CK o x,Mt F.A F.P p.1 p.2)(J:isStr F.P s=true)(H:TL F.P t=true) :
 ∃v w' g',(convert s t (a.eval o)).run F.P w=.ok v w'/\Inv F S' g' (a.put (some d) v) w'/\∀b,b<w.heap.size->w'.heap[b]?=w.heap[b]?:=by
 simp[ev]at y;split at y;rename_i str G;have hv:a.eval o=.string ⟨str.toArray⟩:=Sd h G ho hm;unfold isStr at J;split at J;rename_i Q;unfold TL at H;split at H;rename_i el X;simp[AD]at H;have ⟨c,_⟩:=H;unfold isInt at c;split at c;rename_i k O;simp[decide_eq_true_eq]at c;subst c;have B:=Lib.run_convert_string_bytes (P:=F.P) w s t el ⟨str.toArray⟩ Q X O;have L:(⟨str.toArray⟩:ByteArray).size=str.length:=by simp[ByteArray.size]
 have hge:=grownCap_ge w (⟨str.toArray⟩:ByteArray).size 0 el;have Y:(Lib.bytesCells w el ⟨str.toArray⟩).size=grownCap w (⟨str.toArray⟩:ByteArray).size 0 el:=by simp only[Lib.bytesCells,Array.size_append,Mp,Array.size_replicate];rw[show (⟨str.toArray⟩:ByteArray).data.size=(⟨str.toArray⟩:ByteArray).size from rfl];generalize (⟨str.toArray⟩:ByteArray).size=n at *;omega
 have ⟨g',Z⟩:=h.newRow (w':=Lib.bytesWorld w el ⟨str.toArray⟩) (v:=.slice (some ⟨w.heap.size,0,none⟩) (LZ str).length (grownCap w (⟨str.toArray⟩:ByteArray).size 0 el)) (S0:=λb=>b=w.heap.size) hd y
  (.old (by rw[Lib.bytesWorld_size];omega) rfl rfl (λb q=>Lib.bytesWorld_at_old w el _ b q)) (λb q=>Lib.bytesWorld_at_old w el _ b q)
  (ADo (e:=1) (arr:=Lib.bytesCells w el ⟨str.toArray⟩) (E:=el) ⟨_,Lib.bytesWorld_at_new w el ⟨str.toArray⟩,.inr ⟨Aj _,rfl⟩⟩ (by simp[LZ];omega)
   (by intro row hr;simp[LZ,Ef]at hr;obtain⟨_,_,rfl⟩:=hr;rfl) (by omega) (by intro i j x hx;obtain⟨b,q,rfl,rfl⟩:=qS hx;refine⟨.int .u8 b.toNat,?_,.sc rfl rfl (by simp)⟩;have I:i<str.length:=(AO.1 q).1;simp[A1,Nat.mul_one,DV,Lib.bytesCells];rw[Array.getElem?_append_left (by simpa using I)];simp[q]))
  (λb q=>.inl (by omega))
 refine⟨_,_,g',by rw[hv];exact B,?_,λb q=>Lib.bytesWorld_at_old w el _ b q⟩;have:(LZ str).length=(⟨str.toArray⟩:ByteArray).size:=by simp[LZ,L]
 rw[this]at Z;exact Z;cases c;cases H;cases J;cases y
end
end Lv
