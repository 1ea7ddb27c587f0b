/- The light machine is right about the program's code. -/
import GoSem.Core.Value
import GoSem.Core.Ast
import GoSem.Core.View
import Derived.Calls
import Derived.Laws.CopyRow
import Derived.Laws.IdiomCopy
import GoSem.Dispatch
import Derived.Orders
import Derived.WalkKit
import Derived.Laws.Concat
import Derived.Laws.StructEq
import Derived.Lib.SliceRun
import Derived.Laws.Cover3
import Derived.Laws.Tables
import Derived.Laws.MakeOwn
import Derived.Lib.ConvBytes
import Derived.Laws.BytesString
set_option linter.all false
open Array renaming getD_eq_getD_getElem?->C8,getElem?_eq_some_iff->BB,getElem?_modify->GK,getElem?_push->G4,length_toList->Bg,size_map->Lc,toArray_toList->Ge,toList_setIfInBounds->HH
open Bool renaming and_eq_false_iff->Ik,and_eq_true->AF,and_true->CN,not_eq_true->DG,not_eq_true'->A8,or_eq_true->DA
open List renaming all_eq_true->CG,append_assoc->BR,cons_append->Bm,drop_drop->C3,extract_eq_drop_take'->HJ,flatMap_cons->CS,getElem?_append->I5,getElem?_cons_succ->CJ,getElem?_cons_zero->AN,getElem?_drop->Bz,getElem?_eq_some_iff->AP,getElem?_map->A0,getElem?_of_mem->B2,getElem?_set->EM,getElem?_take->CB,getElem?_toArray->BS,headD_cons->Ed,length_cons->AI,length_nil->AM,mem_cons->Ae,mem_cons_of_mem->Af,mem_map->Ej,mem_of_getElem?->Au,mem_of_mem_drop->C5,mem_of_mem_take->FK,mem_or_eq_of_mem_set->Df,nil_append->Be,size_toArray->A1,take_succ_cons->Cy
open Nat renaming add_assoc->CV,add_mul->Bb,add_right_cancel_iff->Hl,add_zero->C9,le_refl->Ab,lt_irrefl->JU,lt_of_lt_of_le->BY,mul_le_mul_right->An,ne_of_lt->NR,one_mul->Dk,zero_add->Ar,zero_le->EA
open Option renaming isSome_iff_exists->Br,isSome_map->Eu,map_eq_some_iff->AO,map_some->Ap
open Option.some renaming injEq->AD
open Prod.mk renaming injEq->A6
open Go.Region renaming ready->Bk
open Go.Result renaming andThen_ok->Dl
open Go.Sem renaming run_bind->Am
@[reducible] def AA.{u} (α:Type u):=Option α
namespace Lv
open Go (IntKind BinOp UnOp)
theorem AW{c}{h:Decidable c}(j:c){α}{t e:α}:(ite c t e)=t:=if_pos j
theorem AT{c}{h:Decidable c}(j:¬c){α}{t e:α}:(ite c t e)=e:=if_neg j
inductive T where
 |top|un|int(k:IntKind)(n:Int)|bool(b:Bool)|str(s:List UInt8)|nil|np|sl(e:Nat)(xs:List (List T))|mp(ks:List (Int×Int))
inductive CL where
 |tmp(s c:Nat)|cell(b c:Nat)
 deriving DecidableEq
inductive Src where
 |own(r:CL)(p:Option (Nat×Nat))|old(k:Nat)
 deriving DecidableEq
inductive Md where
 |v|p|b|o|m
 deriving DecidableEq
inductive Sh where
 |one|agg|tup(ns:List (Option Nat))|ptr(k:Nat)|vw(k:Nat)
inductive Kd where
 |i|b|s
 deriving DecidableEq
inductive Cls where
 |num|bool|sl|agg(ks:List Kd)
 deriving DecidableEq
mutual
inductive Opd where
 |tmp(t:Nat)|k(x:T)|fn(f:CQ)
inductive XOp where
 |mv(d:Nat)(x:Opd)|as(d:Nat)(x:Opd)|pick(d:Nat)(c a b:Opd)|alloc(d:Nat)(zs:List T)|box(d:Nat)(x:Opd)|build(d:Nat)(zs:List T)(parts:List (Nat×Nat×Opd))|CC(d:Nat)(n:Nat)(zs:List T)(parts:List (Nat×Opd))|ld(d:Nat)(n:Option Nat)(x:Opd)|st(n:Nat)(x v:Opd)|chk(d:Nat)(x:Opd)|bin(d:Nat)(c:Cls)(op:BinOp)(x y:Opd)|un(d:Nat)(op:UnOp)(x:Opd)|cvI(d:Nat)(k:IntKind)(x:Opd)|Nf(d:Nat)(x:Opd)|Pk(d:Nat)(x:Opd)|No(d:Nat)(f:CQ)(caps:List Opd)|Sg(d:Nat)(zs:List T)(n c:Opd)|sub(d:Nat)(e:Nat)(x:Opd)(lo hi:Option Opd)|WK(d:Nat)(x:Opd)(lo hi:Option Opd)|fa(d:Nat)(off:Nat)(x:Opd)|fld(d:Nat)(off:Nat)(n:Option Nat)(x:Opd)|ia(d:Nat)(e:Nat)(x i:Opd)|ix(d:Nat)(x i:Opd)|ext(d:Nat)(x:Opd)(i:Nat)|call(d:Nat)(f:CQ)(args:List Opd)|ED(d:Nat)(f:Opd)(ms:List Md)(args:List Opd)|len(d:Nat)(x:Opd)|lens(d:Nat)(x:Opd)|app(d:Nat)(e:Nat)(fl:Bool)(x y:Opd)|Sl(d:Nat)(zs:List T)(x n:Opd)|cpy(d:Nat)(e:Nat)(x y:Opd)|mm(d:Nat)(isMax:Bool)(x y:Opd)|mmk(d:Nat)|U1(d:Nat)(x k:Opd)|To(x k v:Opd)|U2(d:Nat)(x:Opd)|bad(d:Option Nat)|drop(ds:List Nat)|Qn(ns:List (CL×Nat))
inductive Se where
 |nil|op(i:Nat)(g:Option (Nat×Bool))(sf:List Nat)(o:XOp)(rest:Se)|dr(ds:List Nat)(rest:Se)|nl(ns:List (CL×Nat))(rest:Se)|both(a b:Se)
inductive OH where
 |skip|region(ops:List (Option (Nat×Bool)×XOp))(FD:List Nat)|Vi(r:Se)(FD:List Nat)|seq(a b:OH)|cond(c:Nat)(kt ke:List Nat)(t e:OH)|block(id:Nat)(b:OH)|loop(b:OH)|exit(id:Nat)|ret|scope(b:OH)|or(a b:OH)|dead|Ty(a b:List (Option (Nat×Bool)×XOp))(FD:List Nat)(d p c e:Nat)
inductive IP where
 |tmp(t:Nat)|cell(t:Nat)(n:Option Nat)|bx(t:Nat)|vw(t k:Nat)|un(t n:Nat)
inductive CQ where
 |mk(ms:List Md)(rs:List IP)(body:OH)|NK(id:Nat)(ms:List Md)
end
inductive AS where
 |t(x:T)|und|ow(x:T)|al(r:CL)(sub:Option (Nat×Nat))|ep(r:CL)(i j:Nat)|vw(s:Src)(e:Nat)(xs:List (List T))|vp(s:Src)(cs:List T)|bp(id off:Nat)|fn(f:CQ)(caps:List AS)
structure Ent where
 sh:Sh
 cs:List AS
structure St where
 tm:List (Nat×Ent)
 bx:List (Nat×List AS)
 pin:List Nat:=[]
inductive V where
 |v(sh:Sh)(cs:List T)|f(xf:CQ)(caps:List V)|p(cs:List T)|b(cs:List T)|o(sh:Sh)(cs:List T)|m(sh:Sh)(cs:List T)
abbrev Rel:=CQ->List V->Sh->List T->List (List T)->Prop
def get{α:Type}:List (Nat×α)->Nat->Option α| [],_=>none|(k,a)::r,s=>if k=s then some a else get r s
def put{α:Type}:List (Nat×α)->Nat->α->List (Nat×α)| [],s,a=>[(s,a)]|(k,b)::r,s,a=>if s=k then (s,a)::r else if s<k then (s,a)::(k,b)::r else (k,b)::put r s a
def HB{α:Type}(ks:List Nat):List (Nat×α)->List (Nat×α)| []=>[]|(k,b)::r=>if k∈ks then (k,b)::HB ks r else HB ks r
def AS.B8:AS->Option CL|.al r _|.ep r _ _|.vw (.own r _) _ _|.vp (.own r _) _=>some r|_=>none
def AS.Mg:AS->Option Nat|.bp id _=>some id|.al (.cell id _) _|.ep (.cell id _) _ _|.vw (.own (.cell id _) _) _ _|.vp (.own (.cell id _) _) _=>some id|_=>none
def AS.plain:AS->Bool|.t _|.und|.vw (.old _) _ _|.vp (.old _) _|.bp _ _=>true|_=>false
def Eo(q:AS->Bool):List AS->List AS| []=>[]|l::ls=>(if q l then .t .top else l)::Eo q ls
def Lr(q:AS->Bool):List (Nat×Ent)->List (Nat×Ent)| []=>[]|(k,e)::r=>(k,⟨e.sh,Eo q e.cs⟩)::Lr q r
def Lq(q:AS->Bool):List (Nat×List AS)->List (Nat×List AS)| []=>[]|(k,e)::r=>(k,Eo q e)::Lq q r
def St.kill(S:St)(q:AS->Bool):St:={ S with tm:=Lr q S.tm,bx:=Lq q S.bx}
def MK(r:CL)(l:AS):Bool:=l.B8=some r
def Fo(r:CL):AS->Bool|.vw (.own r' _) _ _|.vp (.own r' _) _=>r'=r|_=>false
def FO(d:Nat)(l:AS):Bool:=match l.B8 with|some (.tmp s _)=>s=d|_=>false
def GA(d:Nat):AS->Bool|.fn _ caps=>caps.any λl=>decide (l.Mg=some d)|l=>decide (l.Mg=some d)
def MJ(ks:List Nat):AS->Bool
 |.fn _ caps=>caps.any λl=>match l.Mg with|some d=>decide (d∉ks)|none=>false
 |l=>match l.Mg with|some d=>decide (d∉ks)|none=>false
def JB(ks:List Nat)(l:AS):Bool:=
 (match l.B8 with|some (.tmp s _)=>decide (s∉ks)|_=>false)||MJ ks l
def KM{α:Type}(ks:List Nat):List (Nat×α)->List (Nat×α)| []=>[]|(k,b)::r=>if k∈ks then KM ks r else (k,b)::KM ks r
def aI(ks:List Nat)(l:AS):Bool:=match l.B8 with|some (.tmp s _)=>decide (s∈ks)|_=>false
def St.Ir(S:St)(ks:List Nat):St:={ S with tm:=Lr (aI ks) (KM ks S.tm),bx:=Lq (aI ks) S.bx}
def St.clean(S:St)(ks:List Nat):St:={ S with tm:=Lr (JB ks) (HB ks S.tm),bx:=Lq (JB ks) (HB ks S.bx)}
def St.at(S:St):CL->Option AS
 |.tmp s c=>match get S.tm s with|some e=>e.cs[c]?|none=>none
 |.cell b c=>match get S.bx b with|some ls=>ls[c]?|none=>none
def St.Bi(S:St)(r:CL)(l:AS):St:=
 match r with
 |.tmp s c=>match get S.tm s with|some e=>{ S with tm:=put S.tm s ⟨e.sh,e.cs.set c l⟩}|none=>S
 |.cell b c=>match get S.bx b with|some ls=>{ S with bx:=put S.bx b (ls.set c l)}|none=>S
def content:T->Option (List (List T))|.nil=>some []|.sl _ xs=>some xs|_=>none
def KF(sub:Option (Nat×Nat))(xs:List (List T)):List (List T):=
 match sub with
 |none=>xs|some (lo,n)=>(xs.drop lo).take n
def pP(sub:Option (Nat×Nat)):T->T|.sl e xs=>.sl e (KF sub xs)|x=>x
def St.elems(S:St):AS->Option (List (List T))
 |.al r sub=>match S.at r with|some (.ow x)=>(content x).map (KF sub)|_=>none
 |.vw _ _ xs=>some xs|.t .nil=>some []|_=>none
def AS.ali(s c:Nat):AS->AS|.ow _=>.al (.tmp s c) none|l=>l
def Sk(s:Nat):Nat->List AS->List AS|_,[]=>[]|c,l::ls=>l.ali s c::Sk s (c+1) ls
def sR:T->AS|.sl e xs=>.vw (.old 0) e xs|x=>.t x
def St.rd(S:St):Opd->Option Ent
 |.tmp s=>match get S.tm s with|some e=>some ⟨e.sh,Sk s 0 e.cs⟩|none=>none
 |.k x=>some ⟨.one,[sR x]⟩|.fn f=>some ⟨.one,[.fn f []]⟩
def St.rds(S:St):List Opd->Option (List Ent)
 | []=>some []|x::xs=>match S.rd x,S.rds xs with|some e,some es=>some (e::es)|_,_=>none
def St.EY(S:St)(d:Nat)(e:Ent):Option St:=
 if d∈S.pin then none else match get S.tm d with
  |none=>some { S with tm:=put S.tm d e}
  |some _=>some { S with tm:=put (Lr (FO d) S.tm) d ⟨e.sh,Eo (FO d) e.cs⟩,bx:=Lq (FO d) S.bx}
def names:AS->List Nat
 |.bp id _=>[id]|.fn _ caps=>caps.filterMap λl=>match l with|.bp id _=>some id|_=>none
 |_=>[]
def T3(l l':AS):Bool:=
 (match l.B8 with|some r=>decide (l'.B8=some r)|none=>false)||(names l).any (λid=>GA id l')||(names l').any (λid=>GA id l)
def SA(l l':AS):Bool:=
 (match l.B8 with|some r=>decide (l'.B8=some r)|none=>false)||(names l).any (λid=>GA id l')
def xj:AS->Bool|.al _ _=>true|_=>false
def O2:List AS->Bool| []=>true|l::ls=>(ls.all λl'=>!((xj l||xj l')&&decide (l.B8=l'.B8)))&&O2 ls
def St.out(S:St)(r:CL):St:=(S.Bi r (.t .top)).kill (MK r)
def St.nl0(S:St)(r:CL)(e:Nat):AS:=match r with|.cell id _=>(if id∈S.pin then .vw (.old id) e [] else .ow (.sl e []))|.tmp _ _=>.ow (.sl e [])
def St.turn(S:St)(r:CL):St:=match S.at r with
 |some (.al r' none)=>match S.at r' with|some (.ow x)=>((S.out r').Bi r (.ow x)).Bi r' (.al r none)|_=>S
 |_=>S
def St.ae(S:St)(r:CL)(e:Nat):St:=if e=0 then S.turn r else match S.at r with|some (.t .nil)=>S.Bi r (S.nl0 r e)|_=>S
def St.Rv(S:St):List (CL×Nat)->St| []=>S|(r,e)::ns=>St.Rv (S.ae r e) ns
def KU:St->List AS->Option (St×List AS)
 |S,[]=>some (S,[])|S,l::ls=>match l with
  |.al r sub=>match S.at r with
   |some (.ow x)=>match KU (S.out r) ls with|some (S',ls')=>some (S',.ow (pP sub x)::ls')|none=>none
   |_=>none
  |l=>match KU S ls with|some (S',ls')=>some (S',l::ls')|none=>none
def Lx(S:St)(ls:List AS):Option (St×List AS):=if O2 ls=true then KU S ls else none
def uI(S:St)(x:Opd)(ls:List AS):Option (St×List AS):=match x with|.tmp s=>if s∈S.pin then some (S,ls) else Lx S ls|_=>Lx S ls
def Sa:T->Bool|.top=>true|_=>false
def aN:T->Bool|.top=>true|.un=>true|_=>false
def at2(xs:List (List T))(i j:Nat):Option T:=match xs[i]? with|some row=>row[j]?|none=>none
def Src.up:Src->Src|.own r _=>.own r none|s=>s
def Jg(rows:List (List T))(i j:Nat)(x:T):List (List T):=rows.set i ((rows.getD i []).set j x)
def St.pull(S:St)(r:CL)(i j:Nat):Option St:=
 match S.at r with
 |some (.ow (.sl e rows))=>some ((S.Bi r (.ow (.sl e (Jg rows i j .top)))).kill (Fo r))|_=>none
def onR(r:CL):List AS->Bool| []=>false|l::ls=>decide (l.B8=some r)||onR r ls
def D1:St->List AS->Option (St×List T)
 |S,[]=>some (S,[])|S,l::ls=>match l with
  |.t x=>if Sa x=true then none else match D1 S ls with|some (S',cs)=>some (S',x::cs)|none=>none
  |.al r sub=>match S.at r with
   |some (.ow x)=>match D1 (S.out r) ls with|some (S',cs)=>some (S',pP sub x::cs)|none=>none
   |_=>none
  |.vw (.own r p) e xs=>match p with
   |none=>match S.at r with
    |some (.ow _)=>match D1 (S.out r) ls with|some (S',cs)=>some (S',.sl e xs::cs)|none=>none
    |_=>none
   |some (i,j)=>if onR r ls=true then none else match S.pull r i j with
    |some S1=>match D1 S1 ls with|some (S',cs)=>some (S',.sl e xs::cs)|none=>none
    |none=>none
  |_=>none
def St.Hr(S:St):AS->Option T
 |.t x=>some x|.al r sub=>match S.at r with|some (.ow x)=>some (pP sub x)|_=>none
 |.vw _ e xs=>some (.sl e xs)|.ow x=>some x|_=>none
def St.Hk(S:St):List AS->Option (List T)
 | []=>some []|l::ls=>match S.Hr l,S.Hk ls with|some x,some xs=>some (x::xs)|_,_=>none
def QC(k:Nat):AS->Option T|.t x=>some x|.vw (.old k') e xs=>if k'=k then some (.sl e xs) else none|_=>none
def F6(k:Nat):List AS->Option (List T)
 | []=>some []|l::ls=>match QC k l,F6 k ls with|some x,some xs=>some (x::xs)|_,_=>none
def Dh:List AS->Nat| []=>0|.vw (.old k) _ _::_=>k|_::ls=>Dh ls
def Eh(k:Nat):T->AS|.sl e xs=>.vw (.old k) e xs|.mp _=>.t .top|x=>.t x
def KR:T->AS|.sl e xs=>.ow (.sl e xs)|.mp ks=>.ow (.mp ks)|.nil=>.ow .nil|x=>.t x
def LN(s:Src):T->AS|.sl e xs=>.vw s e xs|.mp _=>.t .top|x=>.t x
def Pc:List AS->Bool| []=>true|l::ls=>l.B8.isNone&&Pc ls
def AL8(S:St):AS->Option V
 |.t x=>some (.v .one [x])|.vw (.old _) e xs=>some (.v .one [.sl e xs])|.bp id off=>match get S.bx id with|some ls=>if Pc ls=true then (S.Hk (ls.drop off)).map .p else none|none=>none
 |.vp (.old _) cs=>some (.p cs)|_=>none
def fE(S:St):List AS->Option (List V)
 | []=>some []|l::ls=>match AL8 S l,fE S ls with|some x,some xs=>some (x::xs)|_,_=>none
def Gn:Sh->Nat->Bool|.one,n=>n==1|.agg,_=>true|_,_=>false
def R5:AS->Bool|.t _|.al _ none|.vw (.own _ (some _)) _ _=>true|_=>false
def Hn:St->List AS->List T->Option St
 |S,[],[]=>some S|S,l::ls,o::os=>match l with
  |.al r none=>Hn (S.Bi r (.ow o)) ls os|.vw (.own r (some (i,j))) _ _=>match S.at r with|some (.ow (.sl e rows))=>Hn ((S.Bi r (.ow (.sl e (Jg rows i j o)))).kill (Fo r)) ls os|_=>none
  |.t _=>Hn S ls os|_=>none
 |_,_,_=>none
def Sn(S:St)(md:Md)(e:Ent):Option V:=
 match md with
 |.v=>match e with
  |⟨.one,[.fn f caps]⟩=>match fE S caps with|some cs=>some (.f f cs)|none=>none
  |e=>match S.Hk e.cs with|some cs=>some (.v e.sh cs)|none=>none
 |.p=>match e with
  |⟨.one,[.bp id off]⟩=>match get S.bx id with
   |some ls=>if Pc ls=true then match S.Hk (ls.drop off) with|some cs=>some (.p cs)|none=>none else none
   |none=>none
  |⟨.one,[.vp _ cs]⟩=>some (.p cs)|_=>none
 |.b=>match e with
  |⟨.one,[.bp id 0]⟩=>match get S.bx id with
   |some ls=>match F6 (Dh ls) ls with|some cs=>some (.b cs)|none=>none
   |none=>none
  |_=>none
 |_=>none
def Md.FP:Md->Bool|.o|.m=>true|_=>false
def Hp:List Md->List Ent->List AS|md::ms,e::es=>(if md.FP=true then e.cs else [])++Hp ms es|_,_=>[]
def Jd(S:St):List Md->List Ent->List T->Option (List V)
 | [],[],_=>some []|md::ms,e::es,cs=>match md with
  |.o=>match Jd S ms es (cs.drop e.cs.length) with|some vs=>some (.o e.sh (cs.take e.cs.length)::vs)|none=>none
  |.m=>if e.cs.all R5=true/\Gn e.sh e.cs.length=true then match Jd S ms es (cs.drop e.cs.length) with|some vs=>some (.m e.sh (cs.take e.cs.length)::vs)|none=>none else none
  |md=>match Sn S md e,Jd S ms es cs with|some v,some vs=>some (v::vs)|_,_=>none
 |_,_,_=>none
def E6:St->List Md->List Ent->St
 |S,md::ms,e::es=>match md with
  |.b=>match e with
   |⟨.one,[.bp id 0]⟩=>match get S.bx id with
    |some ls=>E6 { S with bx:=put S.bx id (ls.map λ_=>.t .top)} ms es
    |none=>E6 S ms es
   |_=>E6 S ms es
  |_=>E6 S ms es
 |S,_,_=>S
def WT(S:St)(ms:List Md)(es:List Ent):Option (St×List V):=
 match D1 S (Hp ms es) with
 |some (S1,cs)=>match Jd S ms es cs with|some vs=>some (E6 S1 ms es,vs)|none=>none
 |none=>none
def F5(S0:St):St->List Md->List Ent->List (List T)->Option St
 |S,[],_,[]=>some S|S,md::ms,e::es,outs=>match md with
  |.b=>match e,outs with
   |⟨.one,[.bp id 0]⟩,o::outs=>match get S0.bx id,get S.bx id with
    |some ls,some ls1=>if o.length=ls1.length then F5 S0 { S with bx:=put S.bx id (o.map (Eh (Dh ls)))} ms es outs else none
    |_,_=>none
   |_,_=>none
  |.m=>match outs with
   |o::outs=>match Hn S e.cs o with|some S'=>F5 S0 S' ms es outs|none=>none
   |_=>none
  |_=>F5 S0 S ms es outs
 |_,_,_,_=>none
def Md.writes:Md->Bool|.v|.p=>false|_=>true
def shares(e e':Ent):Bool:=e.cs.any λl=>e'.cs.any λl'=>T3 l l'
def QG:List Ent->List Md->List Ent->Bool|prev,md::ms,e::es=>(md.writes&&(prev.any (shares e)||es.any (shares e)))||QG (e::prev) ms es|_,_,_=>false
def E4:CQ->List Md|.mk ms _ _=>ms|.NK _ ms=>ms
def Aam(sh:Sh)(cs:List T):Ent:=⟨sh,cs.map KR⟩
def lim:Nat:=268435456
def AHt:Option Ent->Option T|some ⟨.one,[.t x]⟩=>some x|_=>none
def St.sc(S:St)(x:Opd):Option T:=AHt (S.rd x)
def St.nat(S:St)(x:Opd):Option Int:=match S.sc x with|some (.int _ n)=>some n|_=>none
def St.ATy(S:St)(d:Int):Option Opd->Option Int|none=>some d|some o=>S.nat o
def St.one(S:St)(x:Opd):Option AS:=match S.rd x with|some ⟨.one,[l]⟩=>some l|_=>none
def P0:Nat:=4611686018427387904
def eqT:Kd->T->T->Option Bool|.i,.int k a,.int k' b=>if k=k' then some (a==b) else none|.b,.bool a,.bool b=>some (a==b)|.s,.str a,.str b=>some (a==b)|_,_,_=>none
def Sf:List Kd->List T->List T->Option Bool
 | [],[],[]=>some true|k::ks,a::as,b::bs=>match eqT k a b,Sf ks as bs with|some x,some y=>some (x&&y)|_,_=>none
 |_,_,_=>none
def WM:List AS->Option (List T)| []=>some []|.t x::ls=>(WM ls).map (x::·)|_=>none
def cL(op:BinOp)(k:IntKind)(a b:Int):Option T:=
 match op with
 |.add=>some (.int k (k.wrap (a+b)))|.sub=>some (.int k (k.wrap (a-b)))|.mul=>some (.int k (k.wrap (a*b)))|.quo=>if b=0 then none else some (.int k (k.wrap (a.tdiv b)))|.rem=>if b=0 then none else some (.int k (a.tmod b))|.and=>some (.int k (k.wrap (BitVec.ofInt k.bits a &&& BitVec.ofInt k.bits b).toNat))|.or=>some (.int k (k.wrap (BitVec.ofInt k.bits a |||BitVec.ofInt k.bits b).toNat))|.xor=>some (.int k (k.wrap (BitVec.ofInt k.bits a ^^^ BitVec.ofInt k.bits b).toNat))|.eql=>some (.bool (a==b))|.neq=>some (.bool (a != b))|.lss=>some (.bool (decide (a<b)))|.leq=>some (.bool (decide (a<=b)))|.gtr=>some (.bool (decide (a>b)))|.geq=>some (.bool (decide (a>=b)))|_=>none
def AHu(op:BinOp)(k:IntKind)(a b:Int):Option T:=
 if b<0 then none else
 match op with
 |.shl=>some (.int k (k.wrap (a*2 ^ (min b.toNat k.bits))))|.shr=>some (.int k (a.fdiv (2 ^ (min b.toNat k.bits))))|_=>none
def AL4(op:BinOp):T->T->Option T
 |.int k a,.int k' b=>match op with|.shl|.shr=>AHu op k a b|_=>if k=k' then cL op k a b else none
 |.str a,.str b=>match op with|.add=>if a.length+b.length<=P0 then some (.str (a++b)) else none|.eql=>some (.bool (a==b))|.neq=>some (.bool (a != b))|_=>none
 |.bool a,.bool b=>match op with|.eql=>some (.bool (a==b))|.neq=>some (.bool (a != b))|_=>none
 |_,_=>none
def St.V3(S:St):AS->Option Bool
 |.t .nil=>some true|.vw _ _ (_::_)=>some false|.al r none=>match S.at r with|some (.ow .nil)=>some true|some (.ow (.sl _ (_::_)))=>some false|_=>none
 |_=>none
def o7(op:BinOp)(b:Bool):Option T:=match op with|.eql=>some (.bool b)|.neq=>some (.bool !b)|_=>none
def fB(op:BinOp):T->T->Option T|.int k a,.int k' b=>AL4 op (.int k a) (.int k' b)|.str a,.str b=>AL4 op (.str a) (.str b)|_,_=>none
def St.bin(S:St)(c:Cls)(op:BinOp)(x y:Ent):Option T:=
 match c with
 |.num=>match x,y with|⟨.one,[.t a]⟩,⟨.one,[.t b]⟩=>fB op a b|_,_=>none
 |.bool=>match x,y with|⟨.one,[.t (.bool a)]⟩,⟨.one,[.t (.bool b)]⟩=>o7 op (a==b)|_,_=>none
 |.sl=>match x,y with
  |⟨.one,[l]⟩,⟨.one,[.t .nil]⟩=>match S.V3 l with|some b=>o7 op b|none=>none
  |_,_=>none
 |.agg ks=>match x,y with
  |⟨.agg,as⟩,⟨.agg,bs⟩=>match WM as,WM bs with
   |some as,some bs=>match Sf ks as bs with|some b=>o7 op b|none=>none
   |_,_=>none
  |_,_=>none
def unT(op:UnOp):T->Option T
 |.bool b=>match op with|.not=>some (.bool !b)|_=>none
 |.int k n=>match op with|.neg=>some (.int k (k.wrap (0-n)))|_=>none
 |_=>none
def Ki(s:List UInt8):List (List T):=s.map λb=>[.int .u8 b.toNat]
def byteOf:List T->Option UInt8| [.int .u8 n]=>some (UInt8.ofNat n.toNat)|_=>none
def bytesOf:List (List T)->Option (List UInt8)
 | []=>some []|x::xs=>match byteOf x,bytesOf xs with|some b,some bs=>some (b::bs)|_,_=>none
def flat:T->Bool|.sl _ _=>false|.top=>false|.mp _=>false|_=>true
def HF(xs:List (List T)):Bool:=xs.all (·.all flat)
def AL3(e:Nat)(x:T)(ys:List (List T)):T:=match x with|.sl e xs=>.sl e (xs++ys)|_=>.sl e ys
def eOf(e:Nat):T->Bool|.sl e' _=>e'==e|_=>true
def P5(e:Nat)(fl:Bool)(S:St)(l:AS):Option (St×List (List T)):=
 match l with
 |.t (.str s)=>if e=1 then some (S,Ki s) else none|.t .nil=>some (S,[])|.vw _ e' xs=>if e'=e/\HF xs=true then some (S,xs) else none|.al r sub=>match S.at r with
  |some (.ow x)=>match content x with|some xs=>if eOf e x=true then (if fl=true then (if HF (KF sub xs)=true then some (S,KF sub xs) else none) else some (S.out r,KF sub xs)) else none|none=>none
  |_=>none
 |_=>none
def toEnd(sub:Option (Nat×Nat))(len:Nat):Bool:=match sub with|none=>true|some (lo,n)=>lo+n==len
def SU(e:Nat)(S:St)(l:AS):Option (St×T×Nat):=
 match l with
 |.t .nil=>some (S,.nil,0)|.al r sub=>match S.at r with
  |some (.ow x)=>match content x with|some xs=>if eOf e x=true/\toEnd sub xs.length=true then some (S.out r,pP sub x,(KF sub xs).length) else none|none=>none
  |_=>none
 |.vw (.own r (some (i,j))) e' xs=>if e'=e then match S.pull r i j with|some S'=>some (S',.sl e xs,xs.length)|none=>none else none
 |_=>none
def NM(off:Nat):AS->Option AS|.bp id o=>some (.bp id (o+off))|.ep r i j=>some (.ep r i (j+off))|.vp s cs=>some (.vp s (cs.drop off))|_=>none
def KD(r:CL)(i:Nat):Nat->List T->List AS|_,[]=>[]|j,x::xs=>LN (.own r (some (i,j))) x::KD r i (j+1) xs
def RI(b:Nat):Nat->List AS->List AS|_,[]=>[]|c,.ow _::ls=>.al (.cell b c) none::RI b (c+1) ls|c,l::ls=>l::RI b (c+1) ls
def St.load(S:St)(n:Nat):AS->Option (List AS)
 |.bp id o=>match get S.bx id with|some ls=>if o+n<=ls.length then some (RI id o ((ls.drop o).take n)) else none|none=>none
 |.ep r i j=>match S.at r with
  |some (.ow (.sl _ xs))=>match xs[i]? with|some cs=>if j+n<=cs.length then some (KD r i j ((cs.drop j).take n)) else none|none=>none
  |_=>none
 |.vp s cs=>if n<=cs.length then some ((cs.take n).map (LN s.up)) else none|_=>none
def EC{α:Type}:List α->Nat->List α->List α|ls,_,[]=>ls|ls,o,c::cs=>EC (ls.set o c) (o+1) cs
def Ie(b o n:Nat)(l:AS):Bool:=match l.B8 with|some (.cell b' c)=>b'=b&&decide (o<=c)&&decide (c<o+n)|_=>false
def IU:List AS->Bool| []=>false|.t .top::_=>true|.und::_=>true|_::ls=>IU ls
def Y2(n:Nat)(S:St)(ls:List AS):Option (St×List AS):=if n<1048576 then Lx S ls else some (S,ls)
def St.SJ(S:St)(n:Nat)(p:AS)(cs:List AS):Option St:=
 match p with
 |.bp id o=>match Y2 n S cs with
  |some (S',cs')=>if IU cs'=true then none else
   let S2:=S'.kill (Ie id o cs'.length)
   match get S2.bx id with
   |some ls=>if o+cs'.length<=ls.length then some { S2 with bx:=put S2.bx id (EC ls o (Eo (Ie id o cs'.length) cs'))} else none
   |none=>none
  |none=>none
 |.ep r i j=>match D1 S cs with
  |some (S',ts)=>match S'.at r with
   |some (.ow (.sl e xs))=>match xs[i]? with|some row=>if j+ts.length<=row.length then some ((S'.Bi r (.ow (.sl e (xs.set i (EC row j ts))))).kill (Fo r)) else none|none=>none
   |_=>none
  |none=>none
 |_=>none
def M7(S:St):List AS->List (Nat×Nat×Opd)->Option (List AS)
 |ls,[]=>some ls|ls,(o,n,x)::ps=>match S.rd x with|some e=>if e.cs.length=n/\Gn e.sh n=true/\IU e.cs=false/\o+n<=ls.length then M7 S (EC ls o e.cs) ps else none|none=>none
def rowsOf(n:Nat)(zs:List T):List (List T):=List.replicate n zs
def bsK(m n:Nat):St->List (List T)->List (Nat×Opd)->Option (St×List (List T))
 |S,xs,[]=>some (S,xs)|S,xs,(i,x)::ps=>match S.rd x with
  |some e=>if e.cs.length=m/\Gn e.sh e.cs.length=true/\i<n then match D1 S e.cs with
   |some (S',cs)=>bsK m n S' (xs.set i cs) ps|none=>none
   else none
  |none=>none
def ADn:Sh->Bool|.one=>true|_=>false
def St.SZ:AS->Bool|.bp _ _|.ep _ _ _|.vp _ _=>true|_=>false
def Dn(n:Option Nat):Nat:=match n with|some k=>k|none=>1
def shN(n:Option Nat):Sh:=match n with|some _=>.agg|none=>.one
def U3:List (Option Nat)->Nat| []=>0|n::ns=>Dn n+U3 ns
def St.range(S:St)(len:Nat)(lo hi:Option Opd):Option (Nat×Nat):=
 match S.ATy 0 lo,S.ATy len hi with
 |some a,some b=>if 0<=a/\a<=b/\b<=len then some (a.toNat,b.toNat) else none|_,_=>none
def St.wide(S:St)(e:Nat):AS->Bool
 |.vw _ e' _=>e'==e|.al r _=>match S.at r with|some (.ow x)=>eOf e x|_=>false
 |_=>true
def NI:List (Int×Int)->Int->Int| [],_=>0|(k,v)::r,n=>if n=k then v else NI r n
def KE:List (Int×Int)->Int->Int->List (Int×Int)| [],n,m=>[(n,m)]|(k,v)::r,n,m=>if n=k then (k,m)::r else (k,v)::KE r n m
def St.Qj(S:St)(x:Opd):Option (CL×List (Int×Int)):=
 match S.one x with
 |some (.al r none)=>match S.at r with|some (.ow (.mp ks))=>some (r,ks)|_=>none
 |_=>none
def ev(o:XOp)(S:St):Option St:=
 match o with
 |.mv d x=>match S.rd x with|some e=>S.EY d e|none=>none
 |.as d x=>match S.rd x with
  |some e=>match Lx S e.cs with|some (S',cs)=>S'.EY d ⟨e.sh,cs⟩|none=>none
  |none=>none
 |.pick d c a b=>match S.sc c,S.rd a,S.rd b with|some (.bool t),some ea,some eb=>S.EY d (if t=true then ea else eb)|_,_,_=>none
 |.alloc d zs=>if d∈S.pin then none else
  let S':=S.kill (λl=>FO d l||GA d l)
  some { S' with tm:=put S'.tm d ⟨.one,[.bp d 0]⟩,bx:=put S'.bx d (zs.map .t)}
 |.box d x=>match S.rd x with
  |some e=>match uI S x e.cs with
   |some (S1,cs)=>if d∈S1.pin\/IU cs=true\/Gn e.sh e.cs.length=false then none else
    let q:=λl=>FO d l||GA d l
    let S':=S1.kill q
    some { S' with tm:=put S'.tm d ⟨.one,[.bp d 0]⟩,bx:=put S'.bx d (Eo q cs)}
   |none=>none
  |none=>none
 |.build d zs parts=>match M7 S (zs.map .t) parts with|some ls=>S.EY d ⟨.agg,ls⟩|none=>none
 |.CC d n zs parts=>if n*zs.length<=16777216 then match bsK zs.length n S (rowsOf n zs) parts with
  |some (S',xs)=>S'.EY d ⟨.one,[.ow (.sl zs.length xs)]⟩|none=>none
  else none
 |.ld d n x=>match S.one x with
  |some p=>match S.load (Dn n) p with|some ls=>S.EY d ⟨shN n,ls⟩|none=>none
  |none=>none
 |.st n x v=>match S.one x,S.rd v with|some p,some e=>if e.cs.length=n % 1048576/\Gn e.sh (n % 1048576)=true then S.SJ n p e.cs else none|_,_=>none
 |.chk d x=>match S.one x with|some p=>if St.SZ p=true then S.EY d ⟨.one,[p]⟩ else none|none=>none
 |.bin d c op x y=>match S.rd x,S.rd y with
  |some ex,some ey=>match S.bin c op ex ey with|some t=>S.EY d ⟨.one,[.t t]⟩|none=>none
  |_,_=>none
 |.un d op x=>match S.sc x with
  |some a=>match unT op a with|some t=>S.EY d ⟨.one,[.t t]⟩|none=>none
  |none=>none
 |.cvI d k x=>match S.nat x with|some n=>S.EY d ⟨.one,[.t (.int k (k.wrap n))]⟩|none=>none
 |.Nf d x=>match S.sc x with|some (.str s)=>S.EY d ⟨.one,[.ow (.sl 1 (Ki s))]⟩|_=>none
 |.Pk d x=>match S.one x with
  |some l=>match S.elems l with
   |some xs=>match bytesOf xs with|some bs=>S.EY d ⟨.one,[.t (.str bs)]⟩|none=>none
   |none=>none
  |none=>none
 |.No d f caps=>match S.rds caps with|some es=>if (es.all λe=>ADn e.sh&&e.cs.length==1&&e.cs.all AS.plain)=true then S.EY d ⟨.one,[.fn f (es.flatMap Ent.cs)]⟩ else none|none=>none
 |.Sg d zs n c=>match S.nat n,S.nat c with|some k,some k'=>if k'=k/\0<=k/\k<=lim then S.EY d ⟨.one,[.ow (.sl zs.length (rowsOf k.toNat zs))]⟩ else none|_,_=>none
 |.WK d x lo hi=>match S.sc x with
  |some (.str s)=>match S.range s.length lo hi with|some (a,b)=>S.EY d ⟨.one,[.t (.str ((s.drop a).take (b-a)))]⟩|none=>none
  |_=>none
 |.sub d e x lo hi=>match S.one x with
  |some l=>match if S.wide e l=true then S.elems l else none with
   |some xs=>match S.range xs.length lo hi with
    |some (a,b)=>match l with|.al r none=>S.EY d ⟨.one,[.al r (some (a,b-a))]⟩|.al r (some (lo0,_))=>S.EY d ⟨.one,[.al r (some (lo0+a,b-a))]⟩|.vw s e' _=>S.EY d ⟨.one,[.vw s.up e' ((xs.drop a).take (b-a))]⟩|l=>S.EY d ⟨.one,[l]⟩
    |none=>none
   |none=>none
  |none=>none
 |.fa d off x=>match S.one x with
  |some p=>match NM off p with|some q=>S.EY d ⟨.one,[q]⟩|none=>none
  |none=>none
 |.fld d off n x=>match S.rd x with|some ⟨.agg,cs⟩=>if off+Dn n<=cs.length then S.EY d ⟨shN n,(cs.drop off).take (Dn n)⟩ else none|_=>none
 |.ia d e x i=>match S.one x,S.nat i with
  |some l,some n=>match S.elems l with
   |some xs=>if S.wide e l=true/\0<=n/\n<xs.length then match l with
    |.al r none=>S.EY d ⟨.one,[.ep r n.toNat 0]⟩|.al r (some (lo,_))=>S.EY d ⟨.one,[.ep r (lo+n.toNat) 0]⟩|.vw s _ _=>S.EY d ⟨.one,[.vp s.up (xs.getD n.toNat [])]⟩|_=>none
    else none
   |none=>none
  |_,_=>none
 |.ix d x i=>match S.sc x,S.nat i with|some (.str s),some n=>if 0<=n/\n<s.length then S.EY d ⟨.one,[.t (.int .u8 (s.getD n.toNat 0).toNat)]⟩ else none|_,_=>none
 |.ext d x i=>match x with
  |.tmp s=>match get S.tm s with
   |some ⟨.tup ns,cs⟩=>match ns[i]? with
    |some n=>
     let o:=U3 (ns.take i)
     if o+Dn n<=cs.length then match Lx S (((Sk s 0 cs).drop o).take (Dn n)) with|some (S',ls)=>S'.EY d ⟨shN n,ls⟩|none=>none
     else none
    |none=>none
   |_=>none
  |_=>none
 |.lens d x=>match S.sc x with|some (.str s)=>S.EY d ⟨.one,[.t (.int .i64 s.length)]⟩|_=>none
 |.len d x=>match S.one x with
  |some l=>match S.elems l with|some xs=>S.EY d ⟨.one,[.t (.int .i64 xs.length)]⟩|none=>none
  |none=>none
 |.app d e fl x y=>match S.one x,S.one y with
  |some lx,some ly=>match P5 e fl S ly with
   |some (S1,ys)=>match SU e S1 lx with|some (S2,b,n)=>if n+ys.length<=lim then S2.EY d ⟨.one,[.ow (AL3 e b ys)]⟩ else none|none=>none
   |none=>none
  |_,_=>none
 |.Sl d zs x n=>match S.one x,S.nat n with
  |some lx,some k=>if 0<=k/\k<=lim then match SU zs.length S lx with
   |some (S2,b,n)=>if n+k.toNat<=lim then S2.EY d ⟨.one,[.ow (AL3 zs.length b (rowsOf k.toNat zs))]⟩ else none|none=>none
   else none
  |_,_=>none
 |.cpy d e x y=>match S.one x,S.one y with
  |some (.al r none),some ly=>match S.at r,S.elems ly with
   |some (.ow (.sl e' xs)),some ys=>
    if e'=e/\S.wide e ly=true/\HF ys=true/\HF xs=true/\xs.isEmpty=false
    then ((S.Bi r (.ow (.sl e (ys.take xs.length++xs.drop ys.length)))).kill (Fo r)).EY d ⟨.one,[.t (.int .i64 (min ys.length xs.length:Nat))]⟩ else none
   |_,_=>none
  |_,_=>none
 |.mm d isMax x y=>match S.sc x,S.sc y with|some (.int k a),some (.int k' b)=>if k'=k then S.EY d ⟨.one,[.t (.int k (if isMax=true then (if b>a then b else a) else (if b<a then b else a)))]⟩ else none|_,_=>none
 |.mmk d=>S.EY d ⟨.one,[.ow (.mp [])]⟩|.U1 d x k=>match S.Qj x,S.sc k with|some (_,ks),some (.int .i64 n)=>S.EY d ⟨.one,[.t (.int .i64 (NI ks n))]⟩|_,_=>none
 |.To x k v=>match S.Qj x,S.sc k,S.sc v with|some (r,ks),some (.int .i64 n),some (.int .i64 m)=>some ((S.Bi r (.ow (.mp (KE ks n m)))).kill (Fo r))|_,_,_=>none
 |.U2 d x=>match S.Qj x with|some (_,ks)=>S.EY d ⟨.one,[.t (.int .i64 ks.length)]⟩|none=>none
 |.bad _=>none|.drop ds=>some (S.Ir ds)|.Qn ns=>some (S.Rv ns)|.call _ _ _=>none|.ED _ _ _ _=>none
def Fy(o:XOp)(S:St):Option (Nat×CQ×List Ent):=
 match o with
 |.call d f args=>match S.rds args with|some es=>some (d,f,es)|none=>none
 |.ED d x ms args=>match S.one x,S.rds args with|some (.fn f caps),some es=>if E4 f=ms then some (d,f,es++caps.map (λl=>⟨.one,[l]⟩)) else none|_,_=>none
 |_=>none
def mU(S:St)(e:Ent):Option Nat:=
 match e with
 |⟨.one,[.bp id _]⟩=>match get S.bx id with|some ls=>if (F6 (Dh ls) ls).isSome=true then some (Dh ls) else none|none=>none
 |e=>if (F6 (Dh e.cs) e.cs).isSome=true then some (Dh e.cs) else none
def pre(f:CQ)(es:List Ent)(S:St):Option (St×List V):=if QG [] (E4 f) es=true then none else WT S (E4 f) es
def mV(f:CQ)(S0:St)(es:List Ent)(k:Nat):Option Nat:=
 match es[k]? with
 |some e=>if (E4 f)[k]?=some .p then none else mU S0 e|none=>none
def Qm(S:St)(d:Nat)(ls:List AS):Option St:=
 if d∈S.pin then none else
  let S2:=S.kill (λl=>FO d l||GA d l)
  some { S2 with tm:=put S2.tm d ⟨.one,[.bp d 0]⟩,bx:=put S2.bx d ls}
def post(d:Nat)(f:CQ)(es:List Ent)(S0 S:St)(sh:Sh)(cs:List T)(outs:List (List T)):Option St:=
 match F5 S0 S (E4 f) es outs with
 |some S'=>match sh with
  |.ptr k=>match mV f S0 es k with|some lab=>Qm S' d (cs.map (Eh lab))|none=>none
  |.vw k=>match mV f S0 es k with|some lab=>S'.EY d ⟨.one,cs.map (Eh lab)⟩|none=>none
  |sh=>S'.EY d (Aam sh cs)
 |none=>none
def XOp.lK:XOp->Option Nat|.mv d _|.as d _|.pick d _ _ _|.alloc d _|.box d _|.build d _ _|.CC d _ _ _|.ld d _ _|.chk d _|.bin d _ _ _ _|.un d _ _|.cvI d _ _|.Nf d _|.Pk d _|.No d _ _|.Sg d _ _ _|.sub d _ _ _ _|.WK d _ _ _|.fa d _ _|.fld d _ _ _|.ia d _ _ _|.ix d _ _|.ext d _ _|.call d _ _|.ED d _ _ _|.len d _|.lens d _|.app d _ _ _ _|.Sl d _ _ _|.cpy d _ _ _|.mm d _ _ _|.mmk d|.U1 d _ _|.U2 d _=>some d|.st _ _ _=>none|.To _ _ _=>none|.bad d=>d|.drop _=>none|.Qn _=>none
def Mz(o:XOp)(S:St):Option St:=match o.lK with|some d=>S.EY d ⟨.one,[.und]⟩|none=>some S
def wanted(S:St):Option (Nat×Bool)->Option Bool
 |none=>some true|some (s,want)=>match get S.tm s with|some ⟨.one,[.t (.bool b)]⟩=>some (b==want)|some ⟨.one,[.und]⟩=>some false|_=>none
def opK(Rn:Rel)(o:XOp)(S:St)(K:St->Prop):Prop:=
 (∃S',ev o S=some S'/\K S') \/
 (∃d f es S1 vs sh cs outs S2,Fy o S=some (d,f,es)/\pre f es S=some (S1,vs)/\Rn f vs sh cs outs/\post d f es S S1 sh cs outs=some S2/\K S2)
def ai(Rn:Rel):List (Option (Nat×Bool)×XOp)->St->(St->Prop)->Prop
 | [],S,K=>K S|(g,o)::r,S,K=>∃b,wanted S g=some b /\
  ((b=true/\opK Rn o S (λS'=>ai Rn r S' K))\/(b=false/\∃S',Mz o S=some S'/\ai Rn r S' K))
def XOp.wr:XOp->Option Opd|.app _ _ _ x _|.Sl _ _ x _|.cpy _ _ x _|.To x _ _=>some x|_=>none
def Kg(l:AS):List Md->List Ent->Bool|md::ms,e::es=>(!md.writes||e.cs.all λl'=>!SA l' l)&&Kg l ms es|_,_=>true
def St.Oa(S:St):AS->Bool
 |.bp id _=>(get S.bx id).isSome|.ep _ _ _=>true|.vp _ cs=>!cs.isEmpty|.al r _=>match S.at r with|some (.ow x)=>!aN x|_=>false
 |.vw (.own _ _) _ _=>true|.t .nil=>true|_=>false
def VP(o:XOp)(S:St)(l:AS):Bool:=
 S.Oa l&&match o with
  |.st _ x _=>match S.one x with|some (.bp id _)=>!(names l).contains id|some (.ep r _ _)=>decide (l.B8≠some r)|_=>false
  |o=>match Fy o S with
   |some (_,f,es)=>Kg l (E4 f) es|none=>match o.wr with
    |some y=>match S.one y with|some lt=>l.B8.isNone||decide (l.B8≠lt.B8)|none=>true
    |none=>true
def KT(o:XOp)(S:St):List Nat->Bool
 | []=>true|s::ss=>(match S.one (.tmp s) with|some l=>VP o S l|none=>false)&&KT o S ss
def runK(Rn:Rel):Se->St->(St->Prop)->Prop
 |.nil,S,K=>K S|.op _ g sf o rest,S,K=>∃b,wanted S g=some b /\
  ((b=true/\KT o S sf=true/\opK Rn o S (λS'=>runK Rn rest S' K))\/(b=false/\∃S',Mz o S=some S'/\runK Rn rest S' K))
 |.dr ds rest,S,K=>runK Rn rest (S.Ir ds) K|.nl ns rest,S,K=>runK Rn rest (S.Rv ns) K|.both a b,S,K=>runK Rn a S K/\runK Rn b S K
inductive Ex where
 |n|x(id:Nat)|r
def ALH(body:St->(Ex->St->Prop)->Prop):Nat->St->(Ex->St->Prop)->Prop
 |0,_,_=>False|n+1,S,Q=>body S (λe S'=>match e with|.n=>ALH body n S' Q|e=>Q e S')
def St.see(S:St)(d p c e:Nat):St:=match S.one (.tmp p),S.at (.tmp d 0) with
 |some (.bp b 0),some (.ow (.sl e' xs))=>match S.at (.cell b c),at2 xs (xs.length-1) c with|some (.t .top),some (.sl e2 ys)=>if e'=e then S.Bi (.cell b c) (.vw (.own (.tmp d 0) none) e2 ys) else S|_,_=>S
 |_,_=>S
def wp(Rn:Rel):OH->St->(Ex->St->Prop)->Prop
 |.skip,S,Q=>Q .n S|.region ops FD,S,Q=>ai Rn ops S (λS'=>∃ks,Q .n (S'.clean ks))|.Vi r FD,S,Q=>runK Rn r S (λS'=>∃ks,Q .n (S'.clean ks))|.seq a b,S,Q=>wp Rn a S (λe S'=>match e with|.n=>wp Rn b S' Q|e=>Q e S')
 |.cond c kt ke t e,S,Q=>∃b,S.sc (.tmp c)=some (.bool b)/\∃ks,if b=true then wp Rn t (S.clean ks) Q else wp Rn e (S.clean ks) Q|.block id b,S,Q=>wp Rn b S (λe S'=>match e with|.x i=>if i=id then Q .n S' else Q (.x i) S'|e=>Q e S')
 |.loop b,S,Q=>∃n,ALH (wp Rn b) n S Q|.exit id,S,Q=>Q (.x id) S|.ret,S,Q=>Q .r S|.scope b,S,Q=>wp Rn b S Q|.or a b,S,Q=>wp Rn a S Q\/wp Rn b S Q|.dead,_,_=>False|.Ty a b _ d p c e,S,Q=>ai Rn a S (λS=>(∃id,S.one (.tmp p)=some (.bp id 0)/\(get S.bx id).isSome=true)/\ai Rn b S (λS'=>∃ks,Q .n ((S'.see d p c e).clean ks)))
def Pj(i:Nat):List V->Option (List AS)| []=>some []|.v .one [x]::vs=>(Pj i vs).map (Eh i x::·)|.p cs::vs=>(Pj i vs).map (.vp (.old i) cs::·)|_::_=>none
def initK:Nat->List Md->List V->St->Option St
 |_,[],[],S=>some S|i,.v::ms,.v sh cs::vs,S=>initK (i+1) ms vs { S with tm:=put S.tm i ⟨sh,cs.map (Eh i)⟩}
 |i,.v::ms,.f xf caps::vs,S=>match Pj i caps with
  |some ls=>initK (i+1) ms vs { S with tm:=put S.tm i ⟨.one,[.fn xf ls]⟩}
  |none=>none
 |i,.p::ms,.p cs::vs,S=>initK (i+1) ms vs { S with tm:=put S.tm i ⟨.one,[.vp (.old i) cs]⟩}
 |i,.b::ms,.b cs::vs,S=>initK (i+1) ms vs { S with tm:=put S.tm i ⟨.one,[.bp i 0]⟩,bx:=put S.bx i (cs.map (Eh i)),pin:=i::S.pin}
 |i,.o::ms,.o sh cs::vs,S=>initK (i+1) ms vs { S with tm:=put S.tm i ⟨sh,cs.map KR⟩}
 |i,.m::ms,.m sh cs::vs,S=>if Gn sh cs.length=true then initK (i+1) ms vs { S with tm:=put S.tm i ⟨sh,cs.map KR⟩,pin:=i::S.pin} else none
 |_,_,_,_=>none
def Mx:List IP->St->Option (List (Option Nat)×List AS)
 | [],_=>some ([],[])|.tmp t::rs,S=>match S.rd (.tmp t),Mx rs S with
  |some e,some (ns,ls)=>if Gn e.sh e.cs.length=true then some ((match e.sh with|.one=>none|_=>some e.cs.length)::ns,e.cs++ls) else none
  |_,_=>none
 |.cell t n::rs,S=>match S.one (.tmp t) with
  |some (.bp id o)=>match S.load (Dn n) (.bp id o),Mx rs S with|some ls',some (ns,ls)=>some (n::ns,ls'++ls)|_,_=>none
  |_=>none
 |.bx _::_,_=>none|.vw _ _::_,_=>none|.un _ _::_,_=>none
def AEm:List (Option Nat)->Sh| [none]=>.one| [some _]=>.agg|ns=>.tup ns
def Ok:List AS->Bool
 | []=>true|l::ls=>(match l with|.t x=>!Sa x|.vw (.old _) _ _=>true|_=>false)&&Ok ls
def dP(rs:List IP)(S:St):Option (St×Sh×List T):=
 match rs with
 | [.bx t]=>match S.one (.tmp t) with
  |some (.bp id 0)=>match get S.bx id with
   |some ls=>if id∈S.pin then none else match F6 (Dh ls) ls with|some cs=>some (S,.ptr (Dh ls),cs)|none=>none
   |none=>none
  |_=>none
 | [.vw t k]=>match S.one (.tmp t) with
  |some (.vw (.old k') e xs)=>if k'=k then some (S,.vw k,[.sl e xs]) else none|some (.t .nil)=>some (S,.vw k,[.nil])|some (.al r sub)=>match S.at r with|some (.ow x)=>some (S.out r,.vw k,[pP sub x])|_=>none
  |_=>none
 |.un t n::r::rs=>match S.one (.tmp t) with
  |some (.bp id o)=>match S.load n (.bp id o) with
   |some ls'=>if Ok ls'=true then match Mx (r::rs) S with
    |some (ns,ls)=>match D1 S ls with|some (S',cs)=>some (S',.tup (some n::ns),List.replicate n .un++cs)|none=>none
    |none=>none
    else none
   |none=>none
  |_=>none
 |rs=>match Mx rs S with
  |some (ns,ls)=>match D1 S ls with|some (S',cs)=>some (S',AEm ns,cs)|none=>none
  |none=>none
def owT:AS->Option T|.ow x=>some x|.t x=>if Sa x=true then none else some x|_=>none
def dO:List AS->Option (List T)
 | []=>some []|l::ls=>match owT l,dO ls with|some x,some xs=>some (x::xs)|_,_=>none
def Fc:Nat->List Md->St->Option (List (List T))
 |_,[],_=>some []|i,.b::ms,S=>match get S.bx i,Fc (i+1) ms S with|some ls,some os=>if i∈S.pin then (F6 i ls).map (·::os) else none|_,_=>none
 |i,.m::ms,S=>match get S.tm i,Fc (i+1) ms S with|some e,some os=>if i∈S.pin/\Gn e.sh e.cs.length=true then (dO e.cs).map (·::os) else none|_,_=>none
 |i,_::ms,S=>Fc (i+1) ms S
def fin(ms:List Md)(rs:List IP)(S:St)(sh:Sh)(cs:List T)(outs:List (List T)):Prop:=
 ∃S',dP rs S=some (S',sh,cs)/\Fc 0 ms S'=some outs
def HC:List Md->List V->List (List T)->Bool| [],[],[]=>true|.b::ms,.b cs::vs,o::os=>o.length==cs.length&&HC ms vs os|.b::_,_,_=>false|.m::ms,_::vs,_::os=>HC ms vs os|.v::ms,_::vs,os=>HC ms vs os|.p::ms,_::vs,os=>HC ms vs os|.o::ms,_::vs,os=>HC ms vs os|_,_,_=>false
def U7(id:Nat)(vs:List V)(sh:Sh)(cs:List T)(outs:List (List T)):Prop:=
 id≠1/\if id % 2=0 then
  ∃x xs y ys i,vs=[.o .one [x],.v .one [.int .i64 i],.v .one [y]]/\content x=some xs/\eOf (id / 2) x=true/\content y=some ys/\eOf (id / 2) y=true/\HF xs=true/\HF ys=true/\0<=i/\i.toNat<=xs.length/\ys≠[]/\xs.length+ys.length<=lim /\
   sh=.one/\cs=[.sl (id / 2) (xs.take i.toNat++ys++xs.drop i.toNat)]/\outs=[]
 else
  ∃xs i j,vs=[.o .one [.sl (id / 2) xs],.v .one [.int .i64 i],.v .one [.int .i64 j]]/\HF xs=true/\0<=i/\i<j/\j<=xs.length /\
   sh=.one/\cs=[.sl (id / 2) (xs.take i.toNat++xs.drop j.toNat)]/\outs=[]
def Ym(Rn:Rel):CQ->List V->Sh->List T->List (List T)->Prop
 |.mk ms rs body,vs,sh,cs,outs=>∃S0,initK 0 ms vs ⟨[],[],[]⟩=some S0 /\
  wp Rn body S0 (λe S=>match e with|.x _=>False|_=>fin ms rs S sh cs outs)/\HC ms vs outs=true
 |.NK id _,vs,sh,cs,outs=>U7 id vs sh cs outs
def KG:Rel:=λf vs sh cs outs=>∀Rn:Rel,(∀f vs sh cs outs,Ym Rn f vs sh cs outs->Rn f vs sh cs outs)->Rn f vs sh cs outs
end Lv
namespace Lv
open Go
variable{arr:Array Value}{ks:List (Int×Int)}{xs:List (List T)}{blk e i j o:Nat}{x:T}{α:Type}{E:TypeId}{w w':World}
abbrev Blk:=Nat->Prop
def Sc:T->Value->Prop|.top,_=>True|.un,v=>v.oneCell'=true|.int k n,v=>v=.int k n|.bool b,v=>v=.bool b|.str s,v=>v=.string ⟨s.toArray⟩|.nil,v=>v=.slice none 0 0|.np,v=>v=.pointer none|.sl _ _,_=>False|.mp _,_=>False
structure Still(w w':World):Prop where
 size:w.heap.size<=w'.heap.size
 os:w'.os=w.os
 output:w'.output=w.output
 frozen:∀a,a.block<w.heap.size->w'.frozen? a=w.frozen? a
theorem Still.refl:Still w w:=⟨Ab _,rfl,rfl,λ_ _=>rfl⟩
theorem Still.trans{j}(h:Still w w')(c:Still w' j):Still w j:=
 ⟨Nat.le_trans h.size c.size,c.os.trans h.os,c.output.trans h.output,λa e=>(c.frozen a (BY e h.size)).trans (h.frozen a e)⟩
theorem Still.drawn n :Still w { w with drawn:=n}:=⟨Ab _,rfl,rfl,λ_ _=>rfl⟩
theorem Still.alloc{o}:Still w { w with heap:=w.heap.push o}:=by
 refine⟨by simp,rfl,rfl,λa h=>?_⟩;unfold World.frozen?;simp[G4,NR h]
theorem Still.old(j:w.heap.size<=w'.heap.size)(c:w'.os=w.os)(e:w'.output=w.output)(q:∀b,b<w.heap.size->w'.heap[b]?=w.heap[b]?):Still w w':=by
 refine⟨j,c,e,λa h=>?_⟩;unfold World.frozen?;rw[q _ h]
theorem Still.setRow{b}{row}:Still w (w.setRow b row):=by
 refine⟨by simp[World.setRow],rfl,rfl,λa _=>?_⟩
 grind[World.frozen?,World.setRow]
def Fb(w:World)(blk:Nat)(arr:Array Value)(E:TypeId)(e:Nat):Prop:=∃fr:Nat×Nat,w.heap[blk]?=some (.cells arr E fr)/\(fr.2=0\/arr.size<=fr.1/\e=1)
theorem Fb.of(h:w.heap[blk]?=some (.cells arr E (0,0))):Fb w blk arr E e:=⟨_,h,.inl rfl⟩
theorem Fb.cell(h:Fb w blk arr E e) o :w.cell? ⟨blk,o,none⟩=arr[o]?:=by
 obtain⟨fr,h,_⟩:=h;simp[World.cell?,h]
theorem Fb.lt(h:Fb w blk arr E e):blk<w.heap.size:=by
 obtain⟨fr,h,_⟩:=h;exact(BB.1 h).1
theorem Fb.same(h:Fb w blk arr E e)(j:w'.heap[blk]?=w.heap[blk]?):Fb w' blk arr E e:=by
 obtain⟨fr,h,c⟩:=h;exact⟨fr,j.trans h,c⟩
theorem Fb.set{new}(h:Fb w blk arr E e)(j:new.size=arr.size):Fb (w.setRow blk new) blk new E e:=by
 obtain⟨fr,h,c⟩:=h;refine⟨fr,?_,by rw[j];exact c⟩;simp[World.setRow,GK,h]
theorem Fb.AZ5(h:Fb w blk arr E e)(j:o<arr.size):w.frozen? ⟨blk,o,none⟩=false:=by
 obtain⟨fr,h,c⟩:=h
 grind[World.frozen?,Bool.and_eq_false_iff,decide_eq_false_iff_not]
theorem xt(xs:Array α) i  f g(h:∀x,xs[i]?=some x->f x=g x):xs.modify i f=xs.modify i g:=by
 grind
theorem AEi{v}(h:Fb w blk arr E e):w.setCell ⟨blk,o,none⟩ v=w.setRow blk (arr.setIfInBounds o v):=by
 obtain⟨fr,h,_⟩:=h
 grind[World.setCell,World.setRow,xt]
theorem setRow_setRow{x y}:(w.setRow blk x).setRow blk y=w.setRow blk y:=by
 unfold World.setRow;congr 1
 grind
theorem Yr{blk e}{E}:∀(vs:List Value) (o:Nat) (arr:Array Value) (w:World),Fb w blk arr E e->o+vs.length<=arr.size ->
 w.setCells blk o vs=w.setRow blk (arr.toList.take o++vs++arr.toList.drop (o+vs.length)).toArray
 | [],o,arr,w,h,_=>by
  obtain⟨fr,h,_⟩:=h;simp only[World.setCells,List.append_nil,AM,C9,List.take_append_drop,Ge];exact(setRow_self w blk arr E fr h).symm
 |v::r,o,arr,w,h,q=>by
  simp only[AI]at q;have c:o<arr.size:=by omega
  rw[World.setCells,AEi h,Yr r (o+1) (arr.setIfInBounds o v) _ (h.set (by simp)) (by simp;omega),setRow_setRow];congr 2;simp only[HH,AI];rw[List.set_eq_take_append_cons_drop,AW (by simpa using c)];have j:(arr.toList.take o).length=o:=by simp;omega
  rw[List.take_append,List.drop_append,j];simp only[show o+1-o=1 from by omega,Cy,List.take_zero];rw[List.take_of_length_le (by omega),List.drop_eq_nil_of_le (by omega)];simp only[Be,show o+1+r.length-o=r.length+1 from by omega,List.drop_succ_cons,C3,BR,Bm];congr 4;omega
theorem Fp{P}{g}{cur}{vs}(h:Fb w g cur E e)(y:o+vs.length<=cur.size)(c:∀v∈vs,v.oneCell'=true) :
 (storeCells ⟨g,o,none⟩ vs 0).run P w=.ok () (w.setRow g (cur.toList.take o++vs++cur.toList.drop (o+vs.length)).toArray):=by
 rw[run_storeCells_cells (P:=P) g o vs 0 w ?_ ?_ c]
 .grind[Yr]
 .intro j q;rw[h.cell];simp;omega
 .intro j q;exact h.AZ5 (by omega)
def bn(e:MapEntry):Value×Value:=(e.key,e.val)
def cQ(p:Int×Int):Value×Value:=(.int .i64 p.1,.int .i64 p.2)
def eT(w:World)(blk:Nat)(ks:List (Int×Int)):Prop:=∃es clock,w.heap[blk]?=some (.map es clock)/\es.toList.map bn=ks.map cQ
theorem eT.lt(h:eT w blk ks):blk<w.heap.size:=by
 obtain⟨_,_,h,_⟩:=h;exact(BB.1 h).1
theorem eT.same(h:eT w blk ks)(q:w'.heap[blk]?=w.heap[blk]?):eT w' blk ks:=by
 obtain⟨es,c,e,j⟩:=h;exact⟨es,c,q.trans e,j⟩
inductive View(w:World)(B:Blk):T->Value->Prop
 |sc {x:T} {v:Value}:Sc x v->View w B x v|sl {e:Nat} {xs:List (List T)} {a:Addr} {len cap:Nat} (c:Nat->Nat->Value):len=xs.length->len<=cap->(∀row∈xs,row.length=e) ->
  (xs≠[]->a.spot=none/\B a.block) ->
  (∀i j x,at2 xs i j=some x->w.cell? ⟨a.block,a.off+i*e+j,none⟩=some (c i j)) ->
  (∀i j x,at2 xs i j=some x->View w B x (c i j))->View w B (.sl e xs) (.slice (some a) len cap)
 |nl {e:Nat}:View w B (.sl e []) (.slice none 0 0)|mp {ks:List (Int×Int)} {blk:Nat}:eT w blk ks->B blk->View w B (.mp ks) (.map (some blk))
inductive Own(w:World):T->Value->Blk->Prop
 |sc {x:T} {v:Value} {S:Blk}:Sc x v->v.oneCell'=true->(∀b,¬S b)->Own w x v S|sl {e:Nat} {xs:List (List T)} {blk off len cap:Nat} {arr:Array Value} {E:TypeId} {S:Blk} (c:Nat->Nat->Value) (f:Nat->Nat->Blk) :
  len=xs.length->len<=cap->(∀row∈xs,row.length=e)->Fb w blk arr E e->off+cap*e<=arr.size ->
  (∀i j x,at2 xs i j=some x->arr[off+i*e+j]?=some (c i j)) ->
  (∀i j x,at2 xs i j=some x->Own w x (c i j) (f i j)) ->
  (∀i j x,at2 xs i j=some x->¬f i j blk) ->
  (∀i j x i' j' x',at2 xs i j=some x->at2 xs i' j'=some x'->(i=i'->j≠j')->∀b,f i j b->¬f i' j' b) ->
  (∀b,S b↔b=blk\/∃i j x,at2 xs i j=some x/\f i j b) ->
  Own w (.sl e xs) (.slice (some ⟨blk,off,none⟩) len cap) S
 |nl {e:Nat} {S:Blk}:(∀b,¬S b)->Own w (.sl e []) (.slice none 0 0) S|mp {ks:List (Int×Int)} {blk:Nat} {S:Blk}:eT w blk ks->(∀b,S b↔b=blk)->Own w (.mp ks) (.map (some blk)) S
theorem View.mono{w w'}{B B'}{x}{v}(h:View w B x v)(E:∀b,B b->B' b)(J:∀b,B b->w'.heap[b]?=w.heap[b]?):View w' B' x v:=by
 induction h with
 |nl=>exact .nl|mp h q=>exact .mp (h.same (J _ q)) (E _ q)|sc h=>exact .sc h|@sl e xs a len cap c G q H y Q X O=>
  refine .sl c G q H (λh=>⟨(y h).1,E _ (y h).2⟩) ?_ O;intro i j x L;have I:xs≠[]:=by
   rintro rfl;simp[at2]at L
  grind[World.cell?]
theorem Own.frame{w w'}{S}{x}{v}(h:Own w x v S)(y:∀b,S b->w'.heap[b]?=w.heap[b]?):Own w' x v S:=by
 induction h with
 |nl e=>exact .nl e|mp h e=>exact .mp (h.same (y _ ((e _).2 rfl))) e|sc h q e=>exact .sc h q e|sl c f q B E G H I O J L j Q=>
  refine .sl c f q B E (G.same (y _ ((j _).2 (.inl rfl)))) H I ?_ J L j
  grind
theorem Own.congr{w}{S S'}{x}{v}(h:Own w x v S)(e:∀b,S' b↔S b):Own w x v S':=by
 cases h with
 |nl E=>exact .nl λb B=>E b ((e b).1 B)|mp h y=>exact .mp h λb=>(e b).trans (y b)|sc h j E=>exact .sc h j λb B=>E b ((e b).1 B)|sl c f j y G H I J L O Q q=>exact .sl c f j y G H I J L O Q λb=>(e b).trans (q b)
theorem Own.lt{w}{S}{x}{v}(h:Own w x v S):∀b,S b->b<w.heap.size:=by
 induction h with
 |nl q=>exact λb e=>(q b e).elim|mp h q=>intro b e;rw[(q b).1 e];exact h.lt
 |sc h B q=>exact λb e=>(q b e).elim|sl c f B I J E L O Q X Y y H=>
  intro b e;rcases(y b).1 e with rfl|⟨i,j,x,G,e⟩
  .exact E.lt
  .exact H i j x G b e
theorem Own.view{w}{S}{x}{v}(h:Own w x v S):View w S x v:=by
 induction h with
 |sc h _ y=>exact .sc h|nl=>exact .nl|mp h y=>exact .mp h ((y _).2 rfl)|sl c f B E G H O I Q X Y e L=>
  refine .sl c B E G (λ_=>⟨rfl,(e _).2 (.inl rfl)⟩) ?_ ?_
  .intro i j x q;rw[H.cell];exact I i j x q
  .intro i j x q;exact(L i j x q).mono (λb J=>(e b).2 (.inr ⟨i,j,x,q,J⟩)) λ_ _=>rfl
theorem Sc.one{x}{v}(h:Sc x v)(e:Sa x=false):v.oneCell'=true:=by
 cases x with
 |top=>cases e
 |un=>exact h|sl=>exact h.elim|mp=>exact h.elim|_=>have c:v=_:=h;subst c;rfl
theorem Own.one{w}{S}{x}{v}(h:Own w x v S):v.oneCell'=true:=by
 cases h with
 |sc _ h _=>exact h|sl=>rfl|nl=>rfl|mp=>rfl
theorem uC(h:at2 xs i j=some x):i<xs.length:=by
 grind[at2,List.getElem?_eq_some_iff]
theorem PE(h:at2 xs i j=some x)(c:∀row∈xs,row.length=e):j<e:=by
 grind[at2,List.mem_of_getElem?,List.getElem?_eq_some_iff]
theorem PF{lo n:Nat}(h:at2 ((xs.drop lo).take n) i j=some x):i<n/\at2 xs (lo+i) j=some x:=by
 grind[at2]
theorem Own.sub{w:World}{S:Blk}{e:Nat}{xs:List (List T)}{blk off len cap:Nat}(h:Own w (.sl e xs) (.slice (some ⟨blk,off,none⟩) len cap) S){lo n off' cap':Nat}
 (hn:lo+n<=len) (Z:n<=cap') (I:cap'<=cap-lo) (ho:cap'≠0->off'=off+lo*e) (ho':off'<=off+lo*e) :
 ∃S':Blk,(∀b,S' b->S b)/\Own w (.sl e ((xs.drop lo).take n)) (.slice (some ⟨blk,off',none⟩) n cap') S':=by
 cases h with
 |sc h _ _=>exact h.elim|sl c f h1 h2 J L h5 h6 O Q X y=>
  refine⟨λb=>b=blk\/∃i j x,at2 ((xs.drop lo).take n) i j=some x/\f (lo+i) j b,?_,?_⟩
  .rintro b (rfl|⟨i,j,x,q,Y⟩)
   .exact(y _).2 (.inl rfl)
   .exact(y _).2 (.inr ⟨_,_,_,(PF q).2,Y⟩)
  .have E:(lo+cap')*e<=cap*e:=An _ (by omega);rw[Bb]at E;refine .sl (λi j=>c (lo+i) j) (λi j=>f (lo+i) j) (by simp;omega) Z ?_ L (by omega) ?_ ?_ ?_ ?_ (λb=>Iff.rfl)
   .intro row B;exact J row (C5 (FK B))
   .intro i j x q;have h:=PF q
    grind[Nat.add_mul]
   .intro i j x q;exact O _ _ _ (PF q).2
   .intro i j x q;exact Q _ _ _ (PF q).2
   .intro i j x i' j' x' q H G;exact X _ _ _ _ _ _ (PF q).2 (PF H).2 (by intro h;exact G (by omega))
def tOf:Value->Option T|.int k n=>some (.int k n)|.bool b=>some (.bool b)|.string s=>some (.str s.data.toList)|.slice none 0 0=>some .nil|.pointer none=>some .np|_=>none
def AXH:T->T->Bool|.int k a,.int k' b=>decide (k=k')&&decide (a=b)|.bool a,.bool b=>a==b|.str a,.str b=>decide (a=b)|.nil,.nil=>true|.np,.np=>true|_,_=>false
def RN(v:Value)(x:T):Bool:=match tOf v with|some y=>AXH y x|none=>false
def ALL(v:Value)(x:T):Bool:=match v,x with|.slice none 0 0,.sl _ []=>true|_,_=>false
def UL:List Value->List T->Bool| [],[]=>true|v::vs,x::xs=>RN v x&&UL vs xs|_,_=>false
def CH:Operand->Opd->Bool|.tmp t,.tmp t'=>t==t'|.const v,.k x=>RN v x||ALL v x|.func _,.fn _=>true|_,_=>false
def CI:Operand->Opd->List (Nat×CQ)|.func f,.fn g=>[(f,g)]|_,_=>[]
def Py:List Operand->List Opd->Bool| [],[]=>true|a::as,b::bs=>CH a b&&Py as bs|_,_=>false
def E3:List Operand->List Opd->List (Nat×CQ)|a::as,b::bs=>CI a b++E3 as bs|_,_=>[]
def VN:Option Operand->Option Opd->Bool|none,none=>true|some a,some b=>CH a b|_,_=>false
def Tv:Option Operand->Option Opd->List (Nat×CQ)|some a,some b=>CI a b|_,_=>[]
section
variable(P:Program)
def Qf:TypeDesc->Bool|.struct _=>true|_=>false
def Px:TypeDesc->Bool|.struct _|.array _ _=>true|_=>false
def JE(t:TypeId)(n:Option Nat):Bool:=
 match P.underlying t,P.info? t with
 |some d,some i=>(match n with|some k=>Qf d&&i.size==k|none=>!Px d&&i.size==1)
 |_,_=>false
def bG(t:TypeId)(zs:List T):Bool:=
 match P.info? t with
 |some i=>(match i.zero with|some v=>UL v.cells.toList zs|none=>false)&&i.size==zs.length
 |none=>false
def ZI:List Value->List T->Bool| [],[]=>true|v::vs,x::xs=>(RN v x||ALL v x)&&ZI vs xs|_,_=>false
def AEc(t:TypeId)(zs:List T):Bool:=
 match P.info? t with
 |some i=>(match i.zero with|some v=>ZI v.cells.toList zs|none=>false)&&i.size==zs.length
 |none=>false
def NB(P:Program)(el:TypeId):Bool:=match P.info? el with|some i=>(match i.zero with|some z=>z.cells.size==i.size&&decide (0<i.bytes)|none=>false)|none=>false
def F8(t:TypeId)(e:Nat):Bool:=
 match P.underlying t with
 |some (.slice el)=>(match P.info? el with|some i=>i.size==e&&decide (i.bytes<=65536)&&decide (0<e)|none=>false)
 |_=>false
def isStr(t:TypeId):Bool:=match P.underlying t with|some .string=>true|_=>false
def isInt(t:TypeId)(k:IntKind):Bool:=match P.underlying t with|some (.int k')=>decide (k'=k)|_=>false
def Nl(t:TypeId):Bool:=match P.underlying t with|some (.map k e)=>isInt P k .i64&&(match P.info? e with|some i=>(match i.zero with|some (.int .i64 n)=>n==0|_=>false)|none=>false)|_=>false
def Rq(t:TypeId):Bool:=match P.underlying t with|some (.slice el)=>isInt P el .u8&&F8 P t 1|_=>false
def Xx(t:TypeId)(f off:Nat):Bool:=
 match P.underlying t with
 |some (.struct fs)=>(match fs[f]? with|some x=>x.offset==off&&(match P.info? x.type with|some i=>decide (0<i.size)|none=>false)|none=>false)
 |_=>false
def QZ(fs:Array Field):List (Nat×Operand)->List (Nat×Nat×Opd)->Bool
 | [],[]=>true|(i,x)::ps,(o,n,y)::qs=>(match fs[i]? with|some f=>f.offset==o&&(match P.info? f.type with|some t=>t.size==n|none=>false)|none=>false)&&CH x y&&QZ fs ps qs
 |_,_=>false
def N5:List (Nat×Operand)->List (Nat×Nat×Opd)->List (Nat×CQ)|(_,x)::ps,(_,_,y)::qs=>CI x y++N5 ps qs|_,_=>[]
def Np:List (Nat×Operand)->List (Nat×Opd)->Bool| [],[]=>true|(i,x)::ps,(o,y)::qs=>i==o&&CH x y&&Np ps qs|_,_=>false
def Qv:List (Nat×Operand)->List (Nat×Opd)->List (Nat×CQ)|(_,x)::ps,(_,y)::qs=>CI x y++Qv ps qs|_,_=>[]
def Aah(t:TypeId)(k:Kd):Bool:=
 match P.underlying t,k with
 |some (.int _),.i=>true|some .bool,.b=>true|some .string,.s=>true|_,_=>false
def Qa(sub:TypeId->List Kd->Bool):Nat->List Field->List Kd->Bool
 |_,[],[]=>true|o,f::fs,ks=>f.name != "_" && f.offset==o&&((match ks with|k::ks=>Aah P f.type k&&Qa sub (o+1) fs ks | []=>false) ||
  (match P.info? f.type with|some i=>sub f.type (ks.take i.size)&&Qa sub (o+i.size) fs (ks.drop i.size)|none=>false))
 |_,_,_=>false
def ADT:Nat->TypeId->List Kd->Bool
 |0,_,_=>false|n+1,t,ks=>match P.underlying t with|some (.struct fs)=>Qa P (ADT n) 0 fs.toList ks&&!P.stoodInHeld t|_=>false
def AAM(c:Cls)(t:TypeId):Bool:=
 match c,P.underlying t with
 |.num,_=>true|.bool,some .bool=>true|.sl,some (.slice _)=>true|.agg ks,some (.struct _)=>ADT P 4 t ks&&!P.eqGuardType P.depth t|_,_=>false
def xh(d n:Nat):Bool:=decide (d<n)
def Oj(N:Nat)(dst:Option Nat)(op:Op)(x:XOp):Bool:=
 (match x.lK,dst with|some d,some d'=>d==d'&&xh d N|none,none=>true|_,_=>false) &&
 match op,x with
 |.move a,.mv _ b=>CH a b|.assign a,.as _ b=>CH a b|.assign a,.mv _ b=>CH a b|.pick c a b,.pick _ c' a' b'=>CH c c'&&CH a a'&&CH b b'|.alloc t,.alloc _ zs=>bG P t zs|.box _ a,.box _ b=>CH a b|.build t ps,.build _ zs qs=>bG P t zs&&(match P.underlying t with|some (.struct fs)=>fs.toList.all (λf=>(P.info? f.type).isSome)&&QZ P fs ps.toList qs|_=>false)
 |.buildSlice t n ps,.CC _ n' zs qs=>n==n'&&F8 P t zs.length&&(match P.underlying t with|some (.slice el)=>AEc P el zs|_=>false)&&Np ps.toList qs
 |.load t a,.ld _ n b=>JE P t n&&CH a b|.store t a v,.st n a' v'=>(match P.info? t with|some i=>i.size==n % 1048576|none=>false)&&CH a a'&&CH v v'
 |.nilCheck a,.chk _ b=>CH a b|.binOp op t a b _,.bin _ c op' a' b'=>decide (op=op')&&CH a a'&&CH b b'&&AAM P c t|.unOp op _ a,.un _ op' b=>decide (op=op')&&CH a b|.convert s t a,.cvI _ k b=>CH a b&&isInt P t k&&(match P.underlying s with|some (.int _)=>true|_=>false)
 |.convert s t a,.Nf _ b=>CH a b&&isStr P s&&Rq P t|.convert s t a,.Pk _ b=>CH a b&&Rq P s&&isStr P t|.makeFunc (.func _) first caps,.No _ _ caps'=>first.isEmpty&&Py caps.toList caps'
 |.makeSlice t n c,.Sg _ zs n' c'=>F8 P t zs.length&&(match P.underlying t with|some (.slice el)=>AEc P el zs|_=>false)&&CH n n'&&CH c c'
 |.slice t a lo hi mx,.sub _ e b lo' hi'=>CH a b&&VN lo lo'&&VN hi hi'&&mx.isNone&&F8 P t e|.slice t a lo hi mx,.WK _ b lo' hi'=>CH a b&&VN lo lo'&&VN hi hi'&&mx.isNone&&isStr P t|.fieldAddr t a f,.fa _ off b=>Xx P t f off&&CH a b|.field t a f,.fld _ off n b=>Xx P t f off&&CH a b&&(match P.underlying t with|some (.struct fs)=>(match fs[f]? with|some x=>JE P x.type n|none=>false)|_=>false)
 |.indexAddr t a i,.ia _ e b i'=>F8 P t e&&CH a b&&CH i i'|.index t a i,.ix _ b i'=>isStr P t&&CH a b&&CH i i'|.extract a i,.ext _ b i'=>CH a b&&i==i'|.call { callee:=.value (.func _),args,..},.call _ _ args'=>Py args.toList args'|.call { callee:=.value f,args,..},.ED _ f' _ args'=>CH f f'&&Py args.toList args'|.call { callee:=.builtin .len,args,argTypes},.len _ b=>(match args.toList,argTypes.toList with
  | [a],[t]=>CH a b&&(match P.underlying t with|some (.slice _)=>true|_=>false)
  |_,_=>false)
 |.call { callee:=.builtin .len,args,argTypes},.lens _ b=>(match args.toList,argTypes.toList with
  | [a],[t]=>CH a b&&isStr P t|_,_=>false)
 |.call { callee:=.builtin .append,args,argTypes},.app _ e _ a' b'=>(match args.toList,argTypes.toList with
  | [a,b],[t,u]=>CH a a'&&CH b b'&&F8 P t e&&(match P.underlying t with|some (.slice el)=>NB P el|_=>false) &&
   (match P.underlying u with|some (.slice el)=>F8 P u e&&(match P.underlying t with|some (.slice el')=>el==el'|_=>false)|some .string=>e==1&&Rq P t|_=>false)
  |_,_=>false)
 |.call { callee:=.builtin .append,args,argTypes},.Sl _ zs a' b'=>(match args.toList,argTypes.toList with
  | [a,b],[t,u]=>CH a a'&&CH b b'&&F8 P t zs.length&&(match P.underlying t with|some (.slice el)=>AEc P el zs&&NB P el|_=>false)&&(match P.underlying u with|some (.int _)=>true|_=>false)
  |_,_=>false)
 |.call { callee:=.builtin .copy,args,argTypes},.cpy _ e a' b'=>(match args.toList,argTypes.toList with
  | [a,b],[t,u]=>CH a a'&&CH b b'&&F8 P t e&&F8 P u e|_,_=>false)
 |.makeMap t r,.mmk _=>r.isNone&&Nl P t|.lookup t m k ok,.U1 _ m' k'=>!ok&&Nl P t&&CH m m'&&CH k k'|.mapUpdate t m k v,.To m' k' v'=>Nl P t&&CH m m'&&CH k k'&&CH v v'|.call { callee:=.builtin .len,args,argTypes},.U2 _ b=>(match args.toList,argTypes.toList with
  | [a],[t]=>CH a b&&Nl P t|_,_=>false)
 |.call { callee:=.builtin .max,args,..},.mm _ true a' b'=>(match args.toList with | [a,b]=>CH a a'&&CH b b'|_=>false)
 |.call { callee:=.builtin .min,args,..},.mm _ false a' b'=>(match args.toList with | [a,b]=>CH a a'&&CH b b'|_=>false)
 |_,.bad _=>true|_,_=>false
end
def EX(op:Op)(x:XOp):List (Nat×CQ):=
 match op,x with
 |.move a,.mv _ b|.assign a,.as _ b|.assign a,.mv _ b|.box _ a,.box _ b|.load _ a,.ld _ _ b|.nilCheck a,.chk _ b|.unOp _ _ a,.un _ _ b|.convert _ _ a,.cvI _ _ b|.convert _ _ a,.Nf _ b|.convert _ _ a,.Pk _ b|.fieldAddr _ a _,.fa _ _ b|.field _ a _,.fld _ _ _ b|.extract a _,.ext _ b _=>CI a b|.pick c a b,.pick _ c' a' b'=>CI c c'++CI a a'++CI b b'|.build _ ps,.build _ _ qs=>N5 ps.toList qs|.buildSlice _ _ ps,.CC _ _ _ qs=>Qv ps.toList qs|.store _ a v,.st _ a' v'=>CI a a'++CI v v'|.binOp _ _ a b _,.bin _ _ _ a' b'=>CI a a'++CI b b'|.makeFunc (.func f) _ caps,.No _ g caps'=>(f,g)::E3 caps.toList caps'|.makeSlice _ n c,.Sg _ _ n' c'=>CI n n'++CI c c'|.slice _ a lo hi _,.sub _ _ b lo' hi'|.slice _ a lo hi _,.WK _ b lo' hi'=>CI a b++Tv lo lo'++Tv hi hi'|.indexAddr _ a i,.ia _ _ b i'|.index _ a i,.ix _ b i'=>CI a b++CI i i'|.call { callee:=.value (.func f),args,..},.call _ g args'=>(f,g)::E3 args.toList args'|.call { callee:=.value f,args,..},.ED _ f' _ args'=>CI f f'++E3 args.toList args'|.lookup _ m k _,.U1 _ m' k'=>CI m m'++CI k k'|.mapUpdate _ m k v,.To m' k' v'=>CI m m'++CI k k'++CI v v'|.call { args,..},.U2 _ b=>E3 args.toList [b]|.call { args,..},.len _ b|.call { args,..},.lens _ b=>E3 args.toList [b]|.call { args,..},.app _ _ _ a b|.call { args,..},.Sl _ _ a b|.call { args,..},.cpy _ _ a b|.call { args,..},.mm _ _ a b=>E3 args.toList [a,b]|_,_=>[]
def Nh(ops:Array Oper):Option (Nat×Bool)->Option (Nat×Bool)->Bool
 |none,none=>true|some (j,want),some (s,want')=>want==want'&&(match ops[j]? with|some o=>decide (o.dst=some s)|none=>false)
 |_,_=>false
def Mw(P:Program)(N:Nat)(ops:Array Oper):List Oper->List (Option (Nat×Bool)×XOp)->Bool| [],[]=>true|os,(g,.drop _)::xs=>g.isNone&&Mw P N ops os xs|os,(g,.Qn _)::xs=>g.isNone&&Mw P N ops os xs|o::os,(g,x)::xs=>Nh ops o.guard g&&Oj P N o.dst o.op x&&Mw P N ops os xs|_,_=>false
def ML:List Oper->List (Option (Nat×Bool)×XOp)->List (Nat×CQ)|os,(_,.drop _)::xs=>ML os xs|os,(_,.Qn _)::xs=>ML os xs|o::os,(_,x)::xs=>EX o.op x++ML os xs|_,_=>[]
inductive AaE where
 |pure|ld|eff
def NH:XOp->AaE|.ld _ _ _|.Pk _ _=>.ld|.alloc _ _|.box _ _|.CC _ _ _ _|.Sg _ _ _ _|.Nf _ _|.app _ _ _ _ _|.Sl _ _ _ _|.cpy _ _ _ _|.st _ _ _|.mmk _|.U1 _ _ _|.To _ _ _|.U2 _ _|.bad _|.call _ _ _|.ED _ _ _ _|.drop _|.Qn _=>.eff|_=>.pure
def Tj:XOp->Option Nat|.ld _ _ (.tmp s)=>some s|.Pk _ (.tmp s)=>some s|_=>none
def ADK(ops:Array Oper)(j:Nat):Nat:=match ops[j]? with|some o=>o.after.toList.foldl (λm e=>if Region.binds .any e=true then m |||2 ^ e.on else m) 0|none=>0
def AOx(ops:Array Oper):Nat->Nat->Nat
 |0,m=>m|k+1,m=>match m.testBit k with|true=>AOx ops k (m |||ADK ops k)|false=>AOx ops k m
def SP(ops:Array Oper)(n j i:Nat):Bool:=(AOx ops n (ADK ops j)).testBit i
def PS:Se->List Nat|.nil=>[]|.op i _ _ _ _=>[i]|.dr _ r=>PS r|.nl _ r=>PS r|.both a b=>PS a++PS b
def I3:Se->Nat|.nil=>0|.op _ _ _ _ r=>I3 r+1|.dr _ r=>I3 r|.nl _ r=>I3 r|.both a b=>max (I3 a) (I3 b)
def Iu(P:Program)(N:Nat)(ops:Array Oper):Bool->Se->Array Bool->List (Nat×Nat)->Bool
 |top,.nil,L,_=>top&&(Bk .any ops L).isEmpty|top,.dr _ r,L,Ls=>Iu P N ops top r L Ls|top,.nl _ r,L,Ls=>Iu P N ops top r L Ls|top,.both a b,L,Ls=>(!top||(!(Bk .any ops L).isEmpty&&(Bk .any ops L).all (λj=>(PS a++PS b).contains j)))&&Iu P N ops false a L Ls&&Iu P N ops false b L Ls|top,.op i g sf x r,L,Ls=>match ops[i]? with
  |none=>false|some o=>Nh ops o.guard g&&Oj P N o.dst o.op x&&Ls.all (λt=>!(o.dst==some t.2))&&(match NH x with
   |.pure=>top&&(Bk .any ops L).contains i&&Region.free .any ops L i&&Iu P N ops true r (L.setIfInBounds i true) Ls|.ld=>top&&(Bk .any ops L).contains i&&Region.free .any ops L i&&(match Tj x with|some s=>!(o.dst==some s)&&Iu P N ops true r (L.setIfInBounds i true) ((i,s)::Ls)|none=>false)
   |.eff=>(!top||((Bk .any ops L).contains i&&(Bk .any ops L).all (λj=>j==i)))&&Ls.all (λt=>sf.contains t.2||SP ops ops.size i t.1)&&Iu P N ops true r (L.setIfInBounds i true) Ls)
def bA(n m:Nat):Array Bool:=((List.range n).map λi=>m.testBit i).toArray
def Db{α:Type}(n:Nat)(K:Nat->α):α:=match n with|0=>K 0|k+1=>K (k+1)
theorem Gz n(K:Nat->α):Db n K=K n:=by cases n<;>rfl
def xy(P:Program)(N:Nat)(ops:Array Oper)(top:Bool)(i:Nat)(g:Option (Nat×Bool))(sf:List Nat)(x:XOp)(L:Array Bool)(Ls:List (Nat×Nat)):Bool:=match ops[i]? with
 |none=>false|some o=>Nh ops o.guard g&&Oj P N o.dst o.op x&&Ls.all (λt=>!(o.dst==some t.2))&&(match NH x with
  |.pure=>top&&(Bk .any ops L).contains i&&Region.free .any ops L i|.ld=>top&&(Bk .any ops L).contains i&&Region.free .any ops L i&&(match Tj x with|some s=>!(o.dst==some s)|none=>false)
  |.eff=>(!top||((Bk .any ops L).contains i&&(Bk .any ops L).all (λj=>j==i)))&&Ls.all (λt=>sf.contains t.2||SP ops ops.size i t.1))
def NO(P:Program)(N:Nat)(ops:Array Oper):Bool->Se->Nat->List (Nat×Nat)->Bool
 |top,.nil,m,_=>top&&(Bk .any ops (bA ops.size m)).isEmpty|top,.dr _ r,m,Ls=>NO P N ops top r m Ls&&true|top,.nl _ r,m,Ls=>NO P N ops top r m Ls&&true|top,.both a b,m,Ls=>NO P N ops false a m Ls&&(NO P N ops false b m Ls&&(!top||(!(Bk .any ops (bA ops.size m)).isEmpty&&(Bk .any ops (bA ops.size m)).all (λj=>(PS a++PS b).contains j))))|top,.op i g sf x r,m,Ls=>match Tj x with|some s=>Db (m |||2 ^ i) λm'=>NO P N ops true r m' ((i,s)::Ls)&&xy P N ops top i g sf x (bA ops.size m) Ls|none=>Db (m |||2 ^ i) λm'=>NO P N ops true r m' Ls&&xy P N ops top i g sf x (bA ops.size m) Ls
theorem AWj n :bA n 0=Array.replicate n false:=by
 apply Array.ext
 .simp[bA]
 .intro i c e;simp[bA]
theorem AO3 n m i :(bA n m).setIfInBounds i true=bA n (m |||2 ^ i):=by
 apply Array.ext
 .simp[bA]
 .intro j c e;simp only[bA,List.setIfInBounds_toArray,List.getElem_toArray,List.getElem_set,List.getElem_map,List.getElem_range,Nat.testBit_or,Nat.testBit_two_pow]
  grind
theorem ADr{x}{s}(h:Tj x=some s):NH x=.ld:=by
 unfold Tj at h;split at h<;>first|rfl|cases h
theorem MU{P}{N}{ops}:∀(r:Se) (top:Bool) (m:Nat) (Ls:List (Nat×Nat)),NO P N ops top r m Ls=true->Iu P N ops top r (bA ops.size m) Ls=true
 |.nil,top,m,Ls,h=>h|.dr _ r,top,m,Ls,h=>by
  simp only[NO,CN]at h;simpa only[Iu] using MU r top m Ls h
 |.nl _ r,top,m,Ls,h=>by
  simp only[NO,CN]at h;simpa only[Iu] using MU r top m Ls h
 |.both a b,top,m,Ls,h=>by
  simp only[NO,AF]at h;obtain⟨e,c,q⟩:=h;simp only[Iu,AF];exact⟨⟨q,MU a false m Ls e⟩,MU b false m Ls c⟩
 |.op i g sf x r,top,m,Ls,h=>by
  unfold NO at h;unfold Iu;split at h
  .rename_i s j;rw[Gz,AF]at h;obtain⟨e,c⟩:=h;have e:=MU r true _ _ e;rw[<-AO3]at e;unfold xy at c;have y:=ADr j;split at c
   .cases c
   .simp only[y,j,AF]at c ⊢;exact⟨c.1,⟨c.2.1,⟨c.2.2,e⟩⟩⟩
  .rename_i j;rw[Gz,AF]at h;obtain⟨e,c⟩:=h;have e:=MU r true _ _ e
   grind[AO3,xy]
def NN(ops:Array Oper):Se->List (Nat×CQ)
 |.nil=>[]|.op i _ _ x r=>(match ops[i]? with|some o=>EX o.op x|none=>[])++NN ops r
 |.dr _ r=>NN ops r|.nl _ r=>NN ops r|.both a b=>NN ops a++NN ops b
def AHb(d p c e:Nat):List (Option (Nat×Bool)×XOp)->List (Option (Nat×Bool)×XOp)->Bool
 | [(none,.mv m (.tmp _)),(none,.ld l (some n) (.tmp p')),(none,.CC s 1 zs [(0,.tmp l')])],[(none,.app r e' _ (.tmp m') (.tmp s')),(none,.as d' (.tmp r'))]=>
  p'==p&&l'==l&&m'==m&&s'==s&&r'==r&&d'==d&&e'==e&&n==e&&zs.length==e&&decide (c<e)&&decide (p∉[m,l,s,r,d])
 |_,_=>false
def codeOk(P:Program)(N:Nat):Code->OH->Bool|.skip,.skip=>true|.region _ ops d,.region xs _=>!d&&Mw P N ops ops.toList xs|.region _ ops d,.Vi r _=>d&&P.follows .mixedOrders&&Region.noSelect ops&&decide (I3 r<=ops.size)&&NO P N ops true r 0 []|.seq a b,.seq a' b'=>codeOk P N a a'&&codeOk P N b b'|.cond (.tmp c) t e,.cond c' _ _ t' e'=>c==c'&&codeOk P N t t'&&codeOk P N e e'|.block id b,.block id' b'=>id==id'&&codeOk P N b b'|.loop b,.loop b'=>codeOk P N b b'|.exit id,.exit id'=>id==id'|.ret,.ret=>true|.scope b,.scope b'=>codeOk P N b b'|.cond (.const (.bool true)) t _,.scope x=>codeOk P N t x|.cond (.const (.bool false)) _ e,.scope x=>codeOk P N e x|c,.or a b=>codeOk P N c a&&codeOk P N c b|_,.dead=>true|.region _ os dr,.Ty a b _ d p c e=>!dr&&Mw P N os os.toList (a++b)&&AHb d p c e a b|_,_=>false
def Ef:Code->OH->List (Nat×CQ)|.region _ ops _,.region xs _=>ML ops.toList xs|.region _ ops _,.Vi r _=>NN ops r|.seq a b,.seq a' b'=>Ef a a'++Ef b b'|.cond _ t e,.cond _ _ _ t' e'=>Ef t t'++Ef e e'|.block _ b,.block _ b'=>Ef b b'|.loop b,.loop b'=>Ef b b'|.scope b,.scope b'=>Ef b b'|.cond (.const (.bool true)) t _,.scope x=>Ef t x|.cond (.const (.bool false)) _ e,.scope x=>Ef e x|c,.or a b=>Ef c a++Ef c b|.region _ ops _,.Ty a b _ _ _ _ _=>ML ops.toList (a++b)|_,_=>[]
def IF(P:Program):List ResultVar->List IP->Bool| [],[]=>true|.tmp t::rs,.tmp t'::xs=>t==t'&&IF P rs xs|.cell t ty::rs,.cell t' n::xs=>t==t'&&JE P ty n&&IF P rs xs|.tmp t::rs,.bx t'::xs=>t==t'&&IF P rs xs|.tmp t::rs,.vw t' _::xs=>t==t'&&IF P rs xs|.cell t ty::rs,.un t' n::xs=>t==t'&&JE P ty (some n)&&IF P rs xs|_,_=>false
def Zh(P:Program)(fn:Func)(c:Code):CQ->Bool|.mk ms rs body=>decide (ms.length<=fn.ntmps)&&IF P fn.results.toList rs&&codeOk P fn.ntmps c body&&fn.name != "runtime.NumGoroutine"|.NK _ _=>false
def AKx(c:Code):CQ->List (Nat×CQ)|.mk _ _ body=>Ef c body|.NK _ _=>[]
inductive Mt(A:Nat->Nat->List Md->Prop)(P:Program):Nat->CQ->Prop|NK {n id:Nat} {ms:List Md}:A n id ms->Mt A P n (.NK id ms)|mk {n:Nat} {f:CQ} {fn:Func} {c:Code}:P.funcs[n]?=some fn->fn.body=some c->Zh P fn c f=true->(∀p∈AKx c f,Mt A P p.1 p.2)->Mt A P n f
def Jc:List (Option Nat)->List Value->List Value| [],_=>[]|none::ns,vs=>vs.headD undef::Jc ns (vs.drop 1)|some n::ns,vs=>.agg (vs.take n).toArray::Jc ns (vs.drop n)
def mkV:Sh->List Value->Value|.one,vs=>vs.headD undef|.agg,vs=>.agg vs.toArray|.tup ns,vs=>.tuple (Jc ns vs).toArray|.ptr _,vs=>vs.headD undef|.vw _,vs=>vs.headD undef
structure Fix where
 P:Program
 A:Nat->Nat->List Md->Prop
 R:Nat->Blk
 K:Blk
 RK:∀k b,R k b->K b
 w0:World
 pv:Nat->Value
 β0:Nat->Nat
 N:Nat
structure Gh where
 β:Nat->Nat
 tv:Nat->List Value
 bv:Nat->List Value
 fp:CL->Blk
def Gh.rv(g:Gh):CL->Option Value|.tmp s c=>(g.tv s)[c]?|.cell b c=>(g.bv b)[c]?
def Vb(w:World)(B:Blk)(cs:List T)(v:Value):Prop:=
 ∃(a:Addr) (c:Nat->Value),v=.pointer (some a)/\a.spot=none/\∀j x,cs[j]?=some x->B a.block/\w.cell? ⟨a.block,a.off+j,none⟩=some (c j)/\View w B x (c j)
def AL0(w:World)(B:Blk)(cs:List T)(v:Value):Prop:=
 ∃(a:Addr) (c:Nat->Value) (f:Nat->Blk),v=.pointer (some a)/\a.spot=none /\
  ∀j x,cs[j]?=some x->B a.block/\w.cell? ⟨a.block,a.off+j,none⟩=some (c j)/\(∀b,f j b->B b)/\Own w x (c j) (f j)
def AWW(x:T)(sub:Option (Nat×Nat))(u v:Value):Prop:=
 match sub with
 |none=>v=u|some (lo,n)=>match x with
  |.sl e xs=>(∃blk off len cap off' cap',u=.slice (some ⟨blk,off,none⟩) len cap/\v=.slice (some ⟨blk,off',none⟩) n cap'/\lo+n<=xs.length/\cap'=cap-lo /\
   (cap'≠0->off'=off+lo*e)/\off'<=off+lo*e)\/(u=.slice none 0 0/\v=.slice none 0 0/\xs=[]/\lo=0/\n=0)
  |_=>v=u/\lo=0/\n=0
def Fe(F:Fix)(g:Gh)(w:World):AS->Value->Prop|.t x,v=>Sc x v|.und,v=>v=undef|.vw (.old k) e xs,v=>View w (F.R k) (.sl e xs) v|.vp (.old k) cs,v=>Vb w (F.R k) cs v|.bp id off,v=>v=.pointer (some ⟨g.β id,off,none⟩)|_,_=>False
def CP(S:St)(r:CL):Prop:=∃x,S.at r=some (.ow x)
def AtC(S:St)(g:Gh)(w:World)(r:CL)(p:Option (Nat×Nat))(e:Nat)(xs:List (List T))(v:Value):Prop:=
 match p with
 |none=>True|some (i,j)=>∃e0 rows blk off len cap,S.at r=some (.ow (.sl e0 rows))/\g.rv r=some (.slice (some ⟨blk,off,none⟩) len cap)/\at2 rows i j=some (.sl e xs) /\
  g.fp r blk/\w.cell? ⟨blk,off+i*e0+j,none⟩=some v
def B1(F:Fix)(S:St)(g:Gh)(w:World)(fp:Blk):AS->Value->Prop
 |.ow x,v=>Own w x v fp|.al r sub,v=>∃x u,S.at r=some (.ow x)/\g.rv r=some u/\AWW x sub u v|.ep r i j,v=>∃e xs blk off len cap,S.at r=some (.ow (.sl e xs))/\g.rv r=some (.slice (some ⟨blk,off,none⟩) len cap)/\i<xs.length /\
  v=.pointer (some ⟨blk,off+i*e+j,none⟩)
 |.vw (.own r p) e xs,v=>CP S r/\(∃S',(∀b,S' b->g.fp r b)/\Own w (.sl e xs) v S')/\AtC S g w r p e xs v|.vp (.own r _) cs,v=>CP S r/\AL0 w (g.fp r) cs v|.fn f caps,v=>∃n cv,v=.func (.func n) #[] cv/\Mt F.A F.P n f/\cv.size=caps.length/\∀(i:Nat) (l:AS) (c:Value),caps[i]?=some l->cv[i]?=some c->Fe F g w l c|l,v=>Fe F g w l v
structure Inv(F:Fix)(S:St)(g:Gh)(a:Act)(w:World):Prop where
 C0:∀r l,S.at r=some l->∃v,g.rv r=some v/\B1 F S g w (g.fp r) l v
 tms:∀s e,get S.tm s=some e->s<F.N/\a.tmps.getD s undef=mkV e.sh (g.tv s)/\(g.tv s).length=e.cs.length
 bxs:∀id ls,get S.bx id=some ls->(∃E,w.heap[g.β id]?=some (.cells (g.bv id).toArray E (0,0)))/\(g.bv id).length=ls.length
 dis:∀r r',CP S r->CP S r'->r≠r'->∀b,g.fp r b->¬g.fp r' b
 Fh:∀r id,CP S r->(get S.bx id).isSome->¬g.fp r (g.β id)
 HM:∀r,CP S r->∀b,g.fp r b->¬F.K b
 Gr:∀id id',(get S.bx id).isSome->(get S.bx id').isSome->g.β id=g.β id'->id=id'
 bxR:∀id,(get S.bx id).isSome->¬F.K (g.β id)
 FD:∀b,F.K b->w.heap[b]?=F.w0.heap[b]?
 rlt:∀b,F.K b->b<F.w0.heap.size
 still:Still F.w0 w
 defs:a.defers=[]
 tsz:a.tmps.size=F.N
 pin:∀p∈S.pin,a.tmps.getD p undef=F.pv p/\((get S.bx p).isSome->g.β p=F.β0 p)
theorem Inv.size{F}{S}{g}{a}(h:Inv F S g a w):F.w0.heap.size<=w.heap.size:=h.still.size
section tools
variable{F:Fix}{S S':St}{g g':Gh}{a:Act}{w w':World}
variable{B:Blk}{cs:List T}{v:Value}
theorem View.same{x}(h:View w B x v)(c:∀b,B b->w'.heap[b]?=w.heap[b]?):View w' B x v:=h.mono (λ_ h=>h) c
theorem JW{b o}(h:w'.heap[b]?=w.heap[b]?):w'.cell? ⟨b,o,none⟩=w.cell? ⟨b,o,none⟩:=by simp[World.cell?,h]
theorem Vb.same(h:Vb w B cs v)(q:∀b,B b->w'.heap[b]?=w.heap[b]?):Vb w' B cs v:=by
 obtain⟨a,c,y,E,G⟩:=h;refine⟨a,c,y,E,λj x J=>?_⟩;obtain⟨e,H,I⟩:=G j x J;exact⟨e,by rw[JW (q _ e),H],I.same q⟩
theorem AL0.same{B'}(h:AL0 w B cs v)(hB:∀b,B b->B' b)(E:∀b,B b->w'.heap[b]?=w.heap[b]?):AL0 w' B' cs v:=by
 obtain⟨a,c,f,G,H,I⟩:=h;refine⟨a,c,f,G,H,λj x O=>?_⟩;obtain⟨q,J,y,L⟩:=I j x O;exact⟨hB _ q,by rw[JW (E _ q),J],λb e=>hB b (y b e),L.frame λb e=>E b (y b e)⟩
theorem Fe.tr{l}(h:Fe F g w l v)(c:∀id off,l=.bp id off->g'.β id=g.β id)(hR:∀b,F.K b->w'.heap[b]?=w.heap[b]?) :
 Fe F g' w' l v:=by
 unfold Fe at h ⊢;split at h<;>simp_all
 .exact h.same λb c=>hR b (F.RK _ b c)
 .exact h.same λb c=>hR b (F.RK _ b c)
theorem B1.tr{fp}{l}{v}(h:B1 F S g w fp l v)
(O:∀r,l.B8=some r->S'.at r=S.at r/\g'.rv r=g.rv r/\(∀b,g.fp r b->g'.fp r b)/\∀b,g.fp r b->w'.heap[b]?=w.heap[b]?)
(I:∀id∈names l,g'.β id=g.β id)(hF:∀b,fp b->w'.heap[b]?=w.heap[b]?)(hR:∀b,F.K b->w'.heap[b]?=w.heap[b]?):B1 F S' g' w' fp l v:=by
 match l,h with
 |.ow x,h=>exact Own.frame h hF|.al r sub,⟨x,u,y,E,G⟩=>
  obtain⟨B,H,_,_⟩:=O r rfl;exact⟨x,u,B.trans y,H.trans E,G⟩
 |.ep r i j,⟨e,xs,blk,off,len,cap,y,E,G,X⟩=>
  obtain⟨B,H,_,_⟩:=O r rfl;exact⟨e,xs,blk,off,len,cap,B.trans y,H.trans E,G,X⟩
 |.vw (.own r p) e xs,⟨⟨x,Q⟩,⟨S0,y,E⟩,G⟩=>
  obtain⟨B,H,J,L⟩:=O r rfl;refine⟨⟨x,B.trans Q⟩,⟨S0,λb I=>J b (y b I),E.frame λb I=>L b (y b I)⟩,?_⟩;cases p with
  |none=>trivial|some q=>
   obtain⟨i,j⟩:=q;obtain⟨e0,rows,blk,off,len,cap,k1,k2,k3,Z,k5⟩:=G;exact⟨e0,rows,blk,off,len,cap,B.trans k1,H.trans k2,k3,J _ Z,(JW (L _ Z)).trans k5⟩
 |.vp (.own r _) cs,⟨⟨x,Q⟩,y⟩=>
  obtain⟨B,H,J,L⟩:=O r rfl;exact⟨⟨x,B.trans Q⟩,y.same J L⟩
 |.fn f caps,⟨n,cv,y,E,G,X⟩=>
  refine⟨n,cv,y,E,G,λi l c Y hc=>(X i l c Y hc).tr ?_ hR⟩;rintro id off rfl;refine I id ?_;simp only[names,List.mem_filterMap];exact⟨_,Au Y,rfl⟩
 |.t x,h=>exact Fe.tr (g:=g) (g':=g') (l:=.t x) h (by simp) hR|.und,h=>exact Fe.tr (g:=g) (g':=g') (l:=.und) h (by simp) hR|.vw (.old k) e xs,h=>exact Fe.tr (g:=g) (g':=g') (l:=.vw (.old k) e xs) h (by simp) hR|.vp (.old k) cs,h=>exact Fe.tr (g:=g) (g':=g') (l:=.vp (.old k) cs) h (by simp) hR|.bp id off,h=>exact Fe.tr (g:=g) (g':=g') (l:=.bp id off) h (by rintro _ _ ⟨⟩;exact I id (by simp[names])) hR
theorem B1.top{fp}:B1 F S g w fp (.t .top) v:=trivial
theorem B1.alive{fp}{l}{v}(h:B1 F S g w fp l v){r}(c:l.B8=some r):CP S r:=by
 match l,h with
 |.al r' sub,⟨x,u,y,B,E⟩=>cases c;exact⟨x,y⟩
 |.ep r' i j,⟨e,xs,blk,off,len,cap,y,B,E,G⟩=>cases c;exact⟨_,y⟩
 |.vw (.own r' _) e xs,⟨q,_⟩=>cases c;exact q
 |.vp (.own r' _) cs,⟨q,_⟩=>cases c;exact q
end tools
section lists
variable{α:Type}
theorem GG l(s k:Nat)(a:α):get (put l s a) k=if k=s then some a else get l k:=by
 induction l with
 |nil=>
  grind[put,get]
 |cons p r c=>
  grind[put,get]
theorem FZ q  l  s :get (Lr q l) s=(get l s).map λe=>⟨e.sh,Eo q e.cs⟩:=by
 induction l with
 |nil=>rfl|cons p r c=>obtain⟨k,e⟩:=p;simp only[Lr,get,c];split<;>rfl
theorem DY q  l  s :get (Lq q l) s=(get l s).map (Eo q):=by
 induction l with
 |nil=>rfl|cons p r c=>obtain⟨k,e⟩:=p;simp only[Lq,get,c];split<;>rfl
theorem Hh(ks:List Nat)(l:List (Nat×α))(s:Nat):get (HB ks l) s=if s∈ks then get l s else none:=by
 induction l with
 |nil=>simp[HB,get]|cons p r c=>
  grind[HB,get]
theorem ME(ks:List Nat)(l:List (Nat×α))(s:Nat):get (KM ks l) s=if s∈ks then none else get l s:=by
 induction l with
 |nil=>simp[KM,get]|cons p r c=>
  grind[KM,get]
theorem G1 q  ls(c:Nat):(Eo q ls)[c]?=(ls[c]?).map λl=>if q l then .t .top else l:=by
 induction ls generalizing c with
 |nil=>simp[Eo]|cons l ls e=>cases c<;>simp[Eo,e]
theorem Fa q  ls :(Eo q ls).length=ls.length:=by
 induction ls with
 |nil=>rfl|cons l ls c=>simp[Eo,c]
end lists
theorem AEb{l:AS}{b c:Nat}(h:l.B8=some (.cell b c)):l.Mg=some b:=by
 match l,h with
 |.al _ _,h=>cases h;rfl
 |.ep _ _ _,h=>cases h;rfl
 |.vw (.own _ _) _ _,h=>cases h;rfl
 |.vp (.own _ _) _,h=>cases h;rfl
section at_
variable{S:St}
theorem Hw q  r :(S.kill q).at r=(S.at r).map λl=>if q l then .t .top else l:=by
 cases r with
 |tmp s c=>
  grind[St.at,St.kill,FZ,get,G1]
 |cell b c=>
  grind[St.at,St.kill,DY,get,G1]
theorem E5{r}{I}(h:S.at r=some I) l  r' :(S.Bi r l).at r'=if r'=r then some l else S.at r':=by
 cases r with
 |tmp s c=>
  simp only[St.at,St.Bi]at h ⊢;cases j:get S.tm s with
  |none=>simp[j]at h|some e=>
   simp only[j]at h ⊢;cases r' with
   |tmp E q=>
    simp only[GG];by_cases y:E=s
    .subst y;simp only[if_true,j];have B:=(AP.1 h).1;rw[EM];by_cases H:c=q<;>simp_all[eq_comm]
    .simp[y]
   |cell b q=>simp
 |cell b c=>
  simp only[St.at,St.Bi]at h ⊢;cases j:get S.bx b with
  |none=>simp[j]at h|some e=>
   simp only[j]at h ⊢;cases r' with
   |tmp E q=>simp|cell G q=>
    simp only[GG];by_cases y:G=b
    .subst y;simp only[if_true,j];have B:=(AP.1 h).1;rw[EM];by_cases H:c=q<;>simp_all[eq_comm]
    .simp[y]
theorem MX{r:CL}{l:AS}{s:Nat}{j:Ent}(h:get (S.Bi r l).tm s=some j):∃e,get S.tm s=some e/\j.sh=e.sh/\j.cs.length=e.cs.length:=by
 cases r with
 |tmp q c=>
  grind[St.Bi,GG]
 |cell b c=>
  grind[St.Bi]
theorem JV{r:CL}{l:AS}{s:Nat}{ls':List AS}(h:get (S.Bi r l).bx s=some ls'):∃ls,get S.bx s=some ls/\ls'.length=ls.length:=by
 cases r with
 |tmp e c=>
  grind[St.Bi]
 |cell b c=>
  grind[St.Bi,GG]
theorem HZ{r}{l}:(S.Bi r l).pin=S.pin:=by
 cases r<;>simp only[St.Bi]<;>split<;>rfl
theorem Dv{r}{l}{s}:(get (S.Bi r l).bx s).isSome=(get S.bx s).isSome:=by
 cases r with
 |tmp e c=>simp only[St.Bi];split<;>rfl|cell b c=>
  grind[St.Bi,GG]
end at_
section moves
variable{F:Fix}{S S':St}{g g':Gh}{a a':Act}{w w':World}
theorem Inv.weaken(h:Inv F S g a w)(B:∀s Q,get S'.tm s=some Q->∃e,get S.tm s=some e/\Q.sh=e.sh/\Q.cs.length=e.cs.length)
 (X:∀id ls',get S'.bx id=some ls'->∃ls,get S.bx id=some ls/\ls'.length=ls.length)
 (h3:∀r l',S'.at r=some l'->l'=.t .top/\(S.at r).isSome\/(S.at r=some l'/\∀O x,l'.B8=some O->S.at O=some (.ow x)->S'.at O=some (.ow x)))
 (h4:S'.pin=S.pin):Inv F S' g a w:=by
 have j:∀r,CP S' r->CP S r:=by
  rintro r ⟨x,Y⟩;rcases h3 r _ Y with ⟨h,_⟩|⟨h,_⟩
  .cases h
  .exact⟨x,h⟩
 have c:∀id,(get S'.bx id).isSome->(get S.bx id).isSome:=by
  intro id q;obtain⟨ls',hls⟩:=Br.1 q;obtain⟨ls,h,_⟩:=X _ _ hls;simp[h]
 refine { C0:=?_,tms:=?_,bxs:=?_,dis:=?_,Fh:=?_,HM:=?_,Gr:=?_,bxR:=?_,FD:=h.FD,rlt:=h.rlt,still:=h.still,defs:=h.defs,tsz:=h.tsz,pin:=?_}
 .intro r l' H;rcases h3 r l' H with ⟨rfl,L⟩|⟨L,y⟩
  .obtain⟨l,H⟩:=Br.1 L;obtain⟨v,hv,_⟩:=h.C0 _ _ H;exact⟨v,hv,B1.top⟩
  .obtain⟨v,hv,I⟩:=h.C0 _ _ L;refine⟨v,hv,I.tr ?_ (λ_ _=>rfl) (λ_ _=>rfl) λ_ _=>rfl⟩;intro O J;obtain⟨x,Y⟩:=I.alive J;exact⟨(y O x J Y).trans Y.symm,rfl,λ_ h=>h,λ_ _=>rfl⟩
 .intro s Q he;obtain⟨e,Z,he2,he3⟩:=B _ _ he;obtain⟨E,G,h7⟩:=h.tms _ _ Z;exact⟨E,he2▸G,h7.trans he3.symm⟩
 .intro id ls' H;obtain⟨ls,hl1,hl2⟩:=X _ _ H;obtain⟨E,G⟩:=h.bxs _ _ hl1;exact⟨E,G.trans hl2.symm⟩
 .exact λr r' y hr' hne=>h.dis r r' (j _ y) (j _ hr') hne
 .exact λr id y q=>h.Fh r id (j _ y) (c _ q)
 .exact λr y=>h.HM r (j _ y)
 .exact λid id' B X=>h.Gr id id' (c _ B) (c _ X)
 .exact λid B=>h.bxR id (c _ B)
 .intro p hp;obtain⟨E,G⟩:=h.pin p (h4▸hp);exact⟨E,λL=>G (c _ L)⟩
theorem Inv.kill(h:Inv F S g a w)(q:AS->Bool)(c:∀x,q (.ow x)=false):Inv F (S.kill q) g a w:=by
 refine h.weaken ?_ ?_ ?_ rfl
 .grind[St.kill,FZ,Option.map_eq_some_iff,Fa]
 .grind[St.kill,DY,Option.map_eq_some_iff,Fa]
 grind[Hw,Option.map_eq_some_iff]
theorem Inv.out(h:Inv F S g a w){r:CL}{x:T}(e:S.at r=some (.ow x)):Inv F (S.out r) g a w:=by
 have c:∀r',(S.out r).at r'=(if r'=r then some (.t .top) else S.at r').map λl=>if MK r l then .t .top else l:=by
  intro r';rw[St.out,Hw,E5 e]
 refine h.weaken ?_ ?_ ?_ ?_
 .grind[St.out,St.kill,FZ,Option.map_eq_some_iff,MX,Fa]
 .grind[St.out,St.kill,DY,Option.map_eq_some_iff,JV,Fa]
 .grind[Option.map_eq_some_iff,MK,AS.B8]
 .rw[St.out];exact HZ
theorem Ix{r r':CL}{x:T}(q:S.at r=some (.ow x)):CP (S.out r) r'->r'≠r/\CP S r':=by
 rintro⟨y,j⟩;rw[St.out,Hw,E5 q,AO]at j;obtain⟨l,e,c⟩:=j;split at c
 .cases c
 .subst c;split at e
  .cases e
  .rename_i h;exact⟨h,y,e⟩
theorem Inv.clean(h:Inv F S g a w) ks :Inv F (S.clean ks) g a w:=by
 have J:∀r l',(S.clean ks).at r=some l'->∃l,S.at r=some l/\l'=(if JB ks l then .t .top else l)/\(match r with|.tmp s _=>s∈ks|.cell b _=>b∈ks):=by
  grind[St.at,St.clean,FZ,Hh,get,G1,Option.map_eq_some_iff,DY]
 have y:∀r x,S.at r=some (.ow x)->(match r with|.tmp s _=>s∈ks|.cell b _=>b∈ks)->(S.clean ks).at r=some (.ow x):=by
  intro r x q I;cases r with
  |tmp s c=>
   simp only[St.at,St.clean,FZ,Hh]at q I ⊢;simp only[I,if_true];cases B:get S.tm s with
   |none=>simp[B]at q|some e=>simp only[B]at q;simp[G1,q,JB,MJ,AS.B8,AS.Mg]
  |cell b c=>
   simp only[St.at,St.clean,DY,Hh]at q I ⊢;simp only[I,if_true];cases B:get S.bx b with
   |none=>simp[B]at q|some e=>simp only[B]at q;simp[G1,q,JB,MJ,AS.B8,AS.Mg]
 refine h.weaken ?_ ?_ ?_ rfl
 .intro s Q j;simp only[St.clean,FZ,Hh,AO]at j;obtain⟨e,j,rfl⟩:=j;split at j
  .exact⟨e,j,rfl,Fa _ _⟩
  .cases j
 .intro id ls' G;simp only[St.clean,DY,Hh,AO]at G;obtain⟨e,j,rfl⟩:=G;split at j
  .exact⟨e,j,Fa _ _⟩
  .cases j
 .intro r l' G;obtain⟨l,L,rfl,X⟩:=J r l' G;split
  .exact .inl ⟨rfl,by simp[L]⟩
  .rename_i H;refine .inr ⟨L,λO x E q=>y O x q ?_⟩;cases O with
   |tmp s c=>
    simp only[JB,E,DA,not_or,decide_eq_true_eq,Decidable.not_not]at H;exact H.1
   |cell b c=>
    have Y:l.Mg=some b:=AEb E;have:MJ ks l=false:=by
     simp only[JB,DA,not_or]at H;simpa using H.2
    cases l<;>simp_all[MJ,AS.B8]
end moves
section
variable{F:Fix}{S S':St}{g g':Gh}{a a':Act}{w w':World}
variable{r:CL}{cs:List AS}{vs:List Value}{d:Nat}{nf:Nat->Blk}
def SQ(F:Fix)(S:St)(g:Gh)(cs:List AS)(nf:Nat->Blk):Prop:=
 ∀c x,cs[c]?=some (.ow x)->(∀b,nf c b->¬F.K b)/\(∀r,CP S r->∀b,nf c b->¬g.fp r b)/\(∀id,(get S.bx id).isSome->¬nf c (g.β id)) /\
  ∀c' x',cs[c']?=some (.ow x')->c≠c'->∀b,nf c b->¬nf c' b
def Cells(F:Fix)(S:St)(g:Gh)(w:World)(cs:List AS)(vs:List Value)(nf:Nat->Blk):Prop:=
 vs.length=cs.length/\(∀c l,cs[c]?=some l->∃v,vs[c]?=some v/\B1 F S g w (nf c) l v)/\SQ F S g cs nf
theorem AFM{d}{e} r :({ S with tm:=put S.tm d e}:St).at r=match r with|.tmp s c=>if s=d then e.cs[c]? else S.at (.tmp s c)|.cell b c=>S.at (.cell b c):=by
 grind[St.at,GG]
def Gh.MV(g:Gh)(d:Nat)(vs:List Value)(nf:Nat->Blk):Gh:=
 { g with tv:=λs=>if s=d then vs else g.tv s,fp:=λr=>match r with|.tmp s c=>if s=d then nf c else g.fp (.tmp s c)|.cell b c=>g.fp (.cell b c)}
theorem AD7{l}(h:FO d l=false)(e:l.B8=some r):∀c,r≠.tmp d c:=by
 rintro c rfl;simp[FO,e]at h
theorem Inv.put(h:Inv F S g a w){e:Ent}{vs:List Value}{nf:Nat->Blk}(hd:d<F.N)(hp:d∉S.pin)
 (hfree:∀r l,S.at r=some l->(∀c,r≠.tmp d c)->FO d l=false) (hfe:∀l∈e.cs,FO d l=false) (hc:Cells F S g w e.cs vs nf) :
 Inv F { S with tm:=put S.tm d e} (g.MV d vs nf) (a.put (some d) (mkV e.sh vs)) w:=by
 obtain⟨hlen,hl,G⟩:=hc;have hrv:∀r,(∀c,r≠.tmp d c)->(g.MV d vs nf).rv r=g.rv r:=by
  intro r j;cases r with
  |tmp s c=>
   have:s≠d:=by rintro rfl;exact j c rfl
   simp[Gh.rv,Gh.MV,this]
  |cell b c=>rfl
 have H:∀r,(∀c,r≠.tmp d c)->(g.MV d vs nf).fp r=g.fp r:=by
  intro r j;cases r with
  |tmp s c=>
   have:s≠d:=by rintro rfl;exact j c rfl
   simp[Gh.MV,this]
  |cell b c=>rfl
 have Z:∀r,(∀c,r≠.tmp d c)->({ S with tm:=Lv.put S.tm d e}:St).at r=S.at r:=by
  intro r j;rw[AFM];cases r with
  |tmp s c=>
   have:s≠d:=by rintro rfl;exact j c rfl
   simp[this]
  |cell b c=>rfl
 have tr:∀{fp:Blk} {l:AS} {v:Value},FO d l=false->B1 F S g w fp l v->B1 F { S with tm:=Lv.put S.tm d e} (g.MV d vs nf) w fp l v:=by
  intro fp l v hn Q;refine Q.tr ?_ (λ_ _=>rfl) (λ_ _=>rfl) λ_ _=>rfl
  intro r j;have E:=AD7 hn j;exact⟨Z r E,hrv r E,λb q=>(H r E).symm▸q,λ_ _=>rfl⟩
 have tmpd:∀r:CL,(∃c,r=CL.tmp d c)\/∀c,r≠CL.tmp d c:=by
  intro r;by_cases L:∃c,r=.tmp d c
  .exact .inl L
  .exact .inr λc hc=>L ⟨c,hc⟩
 have y:∀c,CP { S with tm:=Lv.put S.tm d e} (.tmp d c)->∃x,e.cs[c]?=some (.ow x):=by
  rintro c ⟨x,L⟩;rw[AFM]at L;exact⟨x,by simpa using L⟩
 have O:∀r,(∀c,r≠.tmp d c)->CP { S with tm:=Lv.put S.tm d e} r->CP S r:=by
  rintro r j ⟨x,L⟩;exact⟨x,(Z r j)▸L⟩
 have fpd:∀c,(g.MV d vs nf).fp (.tmp d c)=nf c:=λc=>by simp[Gh.MV]
 refine { C0:=?_,tms:=?_,bxs:=h.bxs,dis:=?_,Fh:=?_,HM:=?_,Gr:=h.Gr,bxR:=h.bxR,FD:=h.FD,rlt:=h.rlt,still:=h.still,defs:=h.defs,tsz:=?_,pin:=?_}
 .intro r l I;rcases tmpd r with ⟨c,rfl⟩|j
  .rw[AFM]at I;simp only[if_true]at I;obtain⟨v,hv,Q⟩:=hl c l I;refine⟨v,by simpa[Gh.rv,Gh.MV] using hv,?_⟩;rw[fpd];exact tr (hfe l (Au I)) Q
  .rw[Z r j]at I;obtain⟨v,hv,Q⟩:=h.C0 r l I;refine⟨v,(hrv r j).trans hv,?_⟩;rw[H r j];exact tr (hfree r l I j) Q
 .intro s e' he;simp only[GG]at he;by_cases hs:s=d
  .subst hs;simp only[if_true,AD]at he;subst he;refine⟨hd,?_,by simpa[Gh.MV] using hlen⟩;simp[Act.put,Array.getD,Gh.MV,h.tsz,hd]
  .simp only[AT hs]at he;obtain⟨J,X,h3⟩:=h.tms s e' he;refine⟨J,?_,by simpa[Gh.MV,hs] using h3⟩;have:({ a with tmps:=a.tmps.setIfInBounds d (mkV e.sh vs)}:Act).tmps.getD s undef=a.tmps.getD s undef:=by
    simp[C8,Ne.symm hs]
   simpa[Act.put,Gh.MV,hs] using this.trans X
 .intro r r' j Y E b q B;rcases tmpd r with ⟨c,rfl⟩|J
  .obtain⟨x,L⟩:=y c j;rw[fpd]at q;rcases tmpd r' with ⟨c',rfl⟩|X
   .obtain⟨x',hx'⟩:=y c' Y;rw[fpd]at B;exact(G c x L).2.2.2 c' x' hx' (by rintro rfl;exact E rfl) b q B
   .rw[H r' X]at B;exact(G c x L).2.1 r' (O r' X Y) b q B
  .rw[H r J]at q;rcases tmpd r' with ⟨c',rfl⟩|X
   .obtain⟨x',hx'⟩:=y c' Y;rw[fpd]at B;exact(G c' x' hx').2.1 r (O r J j) b B q
   .rw[H r' X]at B;exact h.dis r r' (O r J j) (O r' X Y) E b q B
 .intro r id j hid q;rcases tmpd r with ⟨c,rfl⟩|J
  .obtain⟨x,L⟩:=y c j;rw[fpd]at q;exact(G c x L).2.2.1 id hid q
  .rw[H r J]at q;exact h.Fh r id (O r J j) hid q
 .intro r j b q;rcases tmpd r with ⟨c,rfl⟩|J
  .obtain⟨x,L⟩:=y c j;rw[fpd]at q;exact(G c x L).1 b q
  .rw[H r J]at q;exact h.HM r (O r J j) b q
 .simp[Act.put,h.tsz]
 .intro p hpp;obtain⟨J,X⟩:=h.pin p hpp;have E:d≠p:=by rintro rfl;exact hp hpp
  refine⟨?_,X⟩;simp only[Act.put,C8,Array.getElem?_setIfInBounds,AT E];rw[C8]at J;exact J
theorem Cells.kill(h:Cells F S g w cs vs nf)(q:AS->Bool)(X:∀x,q (.ow x)=false) :
 Cells F (S.kill q) g w (Eo q cs) vs nf:=by
 obtain⟨I,J,L⟩:=h;have O:∀r,CP (S.kill q) r->CP S r:=by
  rintro r ⟨x,j⟩;rw[Hw,AO]at j;obtain⟨l,y,e⟩:=j;split at e
  .cases e
  .exact⟨x,e▸y⟩
 have B:∀r x,S.at r=some (.ow x)->(S.kill q).at r=some (.ow x):=by
  intro r x j;rw[Hw,j];simp[X]
 have Q:∀id,(get (S.kill q).bx id).isSome->(get S.bx id).isSome:=by
  intro id;simp[St.kill,DY]
 have H:∀(c:Nat) (x:T),(Eo q cs)[c]?=some (AS.ow x)->cs[c]?=some (AS.ow x):=by
  intro c x j;rw[G1,AO]at j;obtain⟨l,y,e⟩:=j;split at e
  .cases e
  .exact e▸y
 refine⟨I.trans (Fa _ _).symm,?_,?_⟩
 .intro c l y;rw[G1,AO]at y;obtain⟨l0,G,rfl⟩:=y;obtain⟨v,Z,E⟩:=J c l0 G;refine⟨v,Z,?_⟩;split
  .exact B1.top
  .refine E.tr ?_ (λ_ _=>rfl) (λ_ _=>rfl) λ_ _=>rfl
   intro r Y;obtain⟨x,j⟩:=E.alive Y;exact⟨(B r x j).trans j.symm,rfl,λ_ h=>h,λ_ _=>rfl⟩
 .intro c x j;obtain⟨h4,h5,h6,h7⟩:=L c x (H c x j)
  grind
theorem Inv.EY(h:Inv F S g a w){e}(j:S.EY d e=some S')(O:d<F.N)(I:Cells F S g w e.cs vs nf) :
 ∃g',Inv F S' g' (a.put (some d) (mkV e.sh vs)) w:=by
 unfold St.EY at j;split at j
 .cases j
 .rename_i Q;split at j
  .rename_i Z;cases j;have E:∀{l:AS} {fp:Blk} {v:Value},B1 F S g w fp l v->FO d l=false:=by
    intro l fp v q;cases H:l.B8 with
    |none=>simp[FO,H]|some r=>
     obtain⟨x,hx⟩:=q.alive H;cases r with
     |tmp s c=>
      have:s≠d:=by rintro rfl;simp[St.at,Z]at hx
      simp[FO,H,this]
     |cell b c=>simp[FO,H]
   refine⟨_,h.put O Q ?_ ?_ I⟩
   .intro r l B _;obtain⟨v,_,q⟩:=h.C0 r l B;exact E q
   .intro l J;obtain⟨c,y⟩:=B2 J;obtain⟨v,_,q⟩:=I.2.1 c l y;exact E q
  .cases j;have X:∀x,FO d (.ow x)=false:=λx=>rfl
   have Y:=I.kill (FO d) X;have G:∀l,FO d (if FO d l then .t .top else l)=false:=by
    intro l;split
    .rfl
    .simp_all
   refine⟨_,(h.kill (FO d) X).put (e:=⟨e.sh,Eo (FO d) e.cs⟩) O Q ?_ ?_ Y⟩
   .intro r l B _;rw[Hw,AO]at B;obtain⟨L,_,rfl⟩:=B;exact G L
   .intro l J;obtain⟨c,y⟩:=B2 J;rw[G1,AO]at y;obtain⟨L,_,rfl⟩:=y;exact G L
theorem B1.any{fp fp'}{l}{v}(c:∀x,l≠.ow x)(h:B1 F S g w fp l v):B1 F S g w fp' l v:=by
 match l,h with
 |.ow x,h=>exact(c x rfl).elim|.al _ _,h=>exact h|.ep _ _ _,h=>exact h|.vw (.own _ _) _ _,h=>exact h|.vw (.old _) _ _,h=>exact h|.vp (.own _ _) _,h=>exact h|.vp (.old _) _,h=>exact h|.fn _ _,h=>exact h|.t _,h=>exact h|.und,h=>exact h|.bp _ _,h=>exact h
theorem Cells.free(e:vs.length=cs.length)(h:∀(c:Nat) (l:AS),cs[c]?=some l->∃v,vs[c]?=some v/\B1 F S g w (λ_=>False) l v)
 (j:∀x,AS.ow x∉cs):Cells F S g w cs vs λ_ _=>False:=
 ⟨e,h,λ_ x q=>(j x (Au q)).elim⟩
theorem Inv.grow(h:Inv F S g a w)(O:Still w w')(G:∀b,b<w.heap.size->w'.heap[b]?=w.heap[b]?):Inv F S g a w':=by
 have hR:∀b,F.K b->w'.heap[b]?=w.heap[b]?:=λb e=>G b (BY (h.rlt b e) h.size)
 have j:∀r,CP S r->∀b,g.fp r b->w'.heap[b]?=w.heap[b]?:=by
  rintro r ⟨x,H⟩ b e;obtain⟨v,_,c⟩:=h.C0 r _ H;exact G b (Own.lt c b e)
 refine { C0:=?_,tms:=h.tms,bxs:=?_,dis:=h.dis,Fh:=h.Fh,HM:=h.HM,Gr:=h.Gr,bxR:=h.bxR,FD:=?_,rlt:=h.rlt,still:=h.still.trans O,defs:=h.defs,tsz:=h.tsz,pin:=h.pin}
 .intro r l y;obtain⟨v,J,c⟩:=h.C0 r l y;by_cases q:∃x,l=.ow x
  .obtain⟨x,rfl⟩:=q;exact⟨v,J,Own.frame c (j r ⟨x,y⟩)⟩
  .have I:∀x,l≠.ow x:=λx H=>q ⟨x,H⟩
   exact⟨v,J,B1.any I ((B1.any (fp':=λ_=>False) I c).tr (S':=S) (g':=g) (w':=w') (λQ B=>⟨rfl,rfl,λ_ h=>h,j Q (c.alive B)⟩) (λ_ _=>rfl) (λ_ h=>h.elim) hR)⟩
 .intro id ls y;obtain⟨⟨E,hE⟩,L⟩:=h.bxs id ls y;exact⟨⟨E,(G _ (BB.1 hE).1).trans hE⟩,L⟩
 .intro b e;exact(hR b e).trans (h.FD b e)
theorem Inv.drawn(h:Inv F S g a w) n :Inv F S g a { w with drawn:=n}:=h.grow (Still.drawn n) λ_ _=>rfl
theorem R3{x:T}{u v:Value}{fp:Blk}{sub}(h:Own w x u fp)(j:AWW x sub u v):∃S0:Blk,(∀b,S0 b->fp b)/\Own w (pP sub x) v S0:=by
 cases sub with
 |none=>
  simp only[AWW]at j;subst j;exact⟨fp,λ_ h=>h,by cases x<;>exact h⟩
 |some p=>
  obtain⟨lo,n⟩:=p;cases x with
  |sl e xs=>
   simp only[AWW]at j;obtain⟨blk,off,len,cap,off',cap',rfl,rfl,q,y,E,G⟩|⟨rfl,rfl,rfl,rfl,rfl⟩:=j
   case inr=>exact⟨fp,λ_ h=>h,by simpa[pP,KF] using h⟩
   have B:len=xs.length/\len<=cap:=by
    cases h with
    |sc h _ _=>exact h.elim|sl c f q y=>exact⟨q,y⟩
   exact h.sub (lo:=lo) (n:=n) (by omega) (by omega) (by omega) E G
  |top=>obtain⟨rfl,_⟩:=j;exact⟨fp,λ_ h=>h,h⟩
  |int k n=>obtain⟨rfl,_⟩:=j;exact⟨fp,λ_ h=>h,h⟩
  |bool b=>obtain⟨rfl,_⟩:=j;exact⟨fp,λ_ h=>h,h⟩
  |str s=>obtain⟨rfl,_⟩:=j;exact⟨fp,λ_ h=>h,h⟩
  |nil=>obtain⟨rfl,_⟩:=j;exact⟨fp,λ_ h=>h,h⟩
  |np=>obtain⟨rfl,_⟩:=j;exact⟨fp,λ_ h=>h,h⟩
  |un=>obtain⟨rfl,_⟩:=j;exact⟨fp,λ_ h=>h,h⟩
  |mp ks=>obtain⟨rfl,_⟩:=j;exact⟨fp,λ_ h=>h,h⟩
theorem AHY{x:T}(e:S.at r=some (.ow x)){r':CL}{y:T}(c:r'≠r)(h:S.at r'=some (.ow y)):(S.out r).at r'=some (.ow y):=by
 rw[St.out,Hw,E5 e,AT c,h];simp[MK,AS.B8]
theorem V5{id}:(get (S.out r).bx id).isSome->(get S.bx id).isSome:=by
 grind[St.out,St.kill,DY,Option.isSome_map,Dv]
theorem ya:(S.out r).pin=S.pin:=by rw[St.out];exact HZ
theorem B1.out{fp:Blk}{l:AS}{v:Value}(h:B1 F S g w fp l v){x:T}(j:S.at r=some (.ow x))(e:l.B8≠some r):B1 F (S.out r) g w fp l v:=by
 refine h.tr ?_ (λ_ _=>rfl) (λ_ _=>rfl) λ_ _=>rfl
 intro B c;obtain⟨y,q⟩:=h.alive c
 grind[AHY]
structure SS(F:Fix)(S S':St)(g:Gh)(a:Act)(w:World):Prop where
 inv:Inv F S' g a w
 same:∀r x,S'.at r=some (.ow x)->S.at r=some (.ow x)
 bx:∀id,(get S'.bx id).isSome->(get S.bx id).isSome
 pin:S'.pin=S.pin
theorem SS.al(h:SS F S S' g a w):∀r,CP S' r->CP S r:=λr ⟨x,c⟩=>⟨x,h.same r x c⟩
theorem nE{r':CL}{x y:T}(c:S.at r=some (.ow x))(e:(S.out r).at r'=some (.ow y)):S.at r'=some (.ow y):=by
 grind[St.out,Hw,E5,Option.map_eq_some_iff]
theorem AWC{ls ls':List AS}{vs:List Value}(h:Inv F S g a w)(hn:∀x,AS.ow x∉ls)(E:vs.length=ls.length)
 (hok:∀(c:Nat) (l:AS),ls[c]?=some l->∃v,vs[c]?=some v/\B1 F S g w (λ_=>False) l v) (htk:O2 ls=true) (J:KU S ls=some (S',ls')) :
 SS F S S' g a w/\(∀fp l v,B1 F S g w fp l v->(∀r sub,AS.al r sub∈ls->l.B8≠some r)->B1 F S' g w fp l v) /\
 ∃nf:Nat->Blk,Cells F S' g w ls' vs nf/\∀c x,ls'[c]?=some (.ow x)->∃r,CP S r/\∀b,nf c b->g.fp r b:=by
 induction ls generalizing S S' ls' vs with
 |nil=>
  simp only[KU,AD,A6]at J;obtain⟨rfl,rfl⟩:=J;refine⟨⟨h,λ_ _ h=>h,λ_ h=>h,rfl⟩,λ_ _ _ h _=>h,λ_ _=>False,⟨E,?_,?_⟩,?_⟩
  .intro c l hl;simp at hl
  .intro c x q;simp at q
  .intro c x q;simp at q
 |cons l ls ih=>
  obtain⟨v,vs,rfl⟩:∃v vs',vs=v::vs':=by cases vs with|nil=>simp at E|cons v vs=>exact⟨v,vs,rfl⟩
  simp only[AI,Hl]at E;simp only[O2,AF,CG,A8,Ik,decide_eq_false_iff_not]at htk;obtain⟨htk1,htk2⟩:=htk;have hn':∀x,AS.ow x∉ls:=λx q=>hn x (Af _ q)
  have hl0:B1 F S g w (λ_=>False) l v:=by
   obtain⟨v',I,Q⟩:=hok 0 l rfl;simp only[AN,AD]at I;exact I▸Q
  by_cases hal:∃r sub,l=.al r sub
  .obtain⟨r,sub,rfl⟩:=hal;obtain⟨x,u,q,hu,hsub⟩:=hl0;simp only[KU,q]at J;have hother:∀l'∈ls,l'.B8≠some r:=by
    intro l' e hr;rcases htk1 l' e with O|O
    .simp[xj]at O
    .exact O hr.symm
   split at J
   .rename_i S1 ls1 heq;simp only[AD,A6]at J;obtain⟨rfl,rfl⟩:=J;obtain⟨htaken,Z,nf,hcells,Y⟩:=ih (S:=S.out r) (S':=S1) (ls':=ls1) (vs:=vs) (h.out q) hn' E (by
     intro c l' e;obtain⟨v',I,Q⟩:=hok (c+1) l' (by simpa using e);exact⟨v',by simpa using I,Q.out q (hother l' (Au e))⟩) htk2 heq
    have hown:Own w x u (g.fp r):=by
     obtain⟨u',hu',Q⟩:=h.C0 r _ q;rw[hu]at hu';cases hu';exact Q
    obtain⟨S0,hS0,hO⟩:=R3 hown hsub;refine⟨⟨htaken.inv,λr' y H=>nE q (htaken.same r' y H),λid hid=>V5 (htaken.bx id hid),htaken.pin.trans ya⟩,?_,λc=>match c with|0=>S0|c+1=>nf c,⟨?_,?_,?_⟩,?_⟩
    .intro fp l' v' Q j;exact Z fp l' v' (Q.out q (j r sub (by simp))) λr2 sub2 hm=>j r2 sub2 (Af _ hm)
    .simpa using hcells.1
    .intro c l' e;cases c with|zero=>simp only[AN,AD]at e;subst e;exact⟨v,rfl,hO⟩|succ c=>exact hcells.2.1 c l' (by simpa using e)
    .have hself:(∀b,S0 b->¬F.K b)/\(∀r',CP S1 r'->∀b,S0 b->¬g.fp r' b)/\(∀id,(get S1.bx id).isSome->¬S0 (g.β id)):=by
      refine⟨λb G=>h.HM r ⟨x,q⟩ b (hS0 b G),λr' j b G=>?_,λid hid G=>?_⟩
      .have:=Ix q (htaken.al r' j);exact h.dis r r' ⟨x,q⟩ this.2 (Ne.symm this.1) b (hS0 b G)
      .exact h.Fh r id ⟨x,q⟩ (V5 (htaken.bx id hid)) (hS0 _ G)
     have hcross:∀c X,ls1[c]?=some (.ow X)->∀b,S0 b->¬nf c b:=by
      intro c X B b G hb';obtain⟨r',j,hsubs⟩:=Y c X B;have:=Ix q j;exact h.dis r r' ⟨x,q⟩ this.2 (Ne.symm this.1) b (hS0 b G) (hsubs b hb')
     intro c y H;cases c with
     |zero=>
      refine⟨hself.1,hself.2.1,hself.2.2,?_⟩;intro L X B hne b G;cases L with
      |zero=>exact(hne rfl).elim|succ L=>exact hcross L X (by simpa using B) b G
     |succ c=>
      obtain⟨O,h2,h3,h4⟩:=hcells.2.2 c y (by simpa using H);refine⟨O,h2,h3,?_⟩;intro L X B hne b G;cases L with
      |zero=>exact λhb'=>hcross c y (by simpa using H) b hb' G|succ L=>exact h4 L X (by simpa using B) (by omega) b G
    .intro c y H;cases c with
     |zero=>exact⟨r,⟨x,q⟩,hS0⟩|succ c=>
      obtain⟨r',j,hsubs⟩:=Y c y (by simpa using H);exact⟨r',(Ix q j).2,hsubs⟩
   .cases J
  .have htg:KU S (l::ls)=match KU S ls with|some (S',ls')=>some (S',l::ls')|none=>none:=by
    cases l<;>first|rfl|exact(hal ⟨_,_,rfl⟩).elim
   rw[htg]at J;split at J
   .rename_i S1 ls1 heq;simp only[AD,A6]at J;obtain⟨rfl,rfl⟩:=J;obtain⟨htaken,Z,nf,hcells,Y⟩:=ih (S:=S) (S':=S1) (ls':=ls1) (vs:=vs) h hn' E (by
     intro c l' e;obtain⟨v',I,Q⟩:=hok (c+1) l' (by simpa using e);exact⟨v',by simpa using I,Q⟩) htk2 heq
    have hno:∀x,l≠.ow x:=by rintro x rfl;exact hn x (by simp)
    refine⟨htaken,?_,λc=>match c with|0=>λ_=>False|c+1=>nf c,⟨by simpa using hcells.1,?_,?_⟩,?_⟩
    .intro fp l' v' Q j;exact Z fp l' v' Q λr2 sub2 hm=>j r2 sub2 (Af _ hm)
    .intro c l' e;cases c with
     |zero=>
      simp only[AN,AD]at e;subst e;refine⟨v,rfl,Z _ _ _ hl0 ?_⟩;intro r sub hm hr;rcases htk1 _ hm with O|O
      .simp[xj]at O
      .exact O hr
     |succ c=>exact hcells.2.1 c l' (by simpa using e)
    .intro c y H;cases c with
     |zero=>simp only[AN,AD]at H;exact(hno y H).elim|succ c=>
      obtain⟨O,h2,h3,h4⟩:=hcells.2.2 c y (by simpa using H);refine⟨O,h2,h3,?_⟩;intro L X B hne b G;cases L with
      |zero=>simp only[AN,AD]at B;exact(hno X B).elim|succ L=>exact h4 L X (by simpa using B) (by omega) b G
    .intro c y H;cases c with|zero=>simp only[AN,AD]at H;exact(hno y H).elim|succ c=>exact Y c y (by simpa using H)
   .cases J
def Gh.GP(g:Gh)(d blk:Nat)(vs:List Value)(nf:Nat->Blk):Gh:=
 { g with β:=λi=>if i=d then blk else g.β i,bv:=λi=>if i=d then vs else g.bv i,fp:=λr=>match r with|.cell b c=>if b=d then nf c else g.fp (.cell b c)|.tmp s c=>g.fp (.tmp s c)}
theorem Nc{d}{ls} r :({ S with bx:=put S.bx d ls}:St).at r=match r with|.cell b c=>if b=d then ls[c]? else S.at (.cell b c)|.tmp s c=>S.at (.tmp s c):=by
 grind[St.at,GG]
theorem Inv.ALb(h:Inv F S g a w){d blk:Nat}{E:TypeId}{vs:List Value}{ls:List AS}{nf:Nat->Blk}
 (hs:Still w w') (hw:∀b,b≠blk->b<w.heap.size->w'.heap[b]?=w.heap[b]?) (hblk:w'.heap[blk]?=some (.cells vs.toArray E (0,0)))
 (hK:¬F.K blk) (hfpb:∀r,CP S r->¬g.fp r blk) (hβ:∀id,id≠d->(get S.bx id).isSome->g.β id≠blk)
 (hnames:g.β d=blk\/(∀r l,S.at r=some l->(∀c,r≠.cell d c)->d∉names l)/\∀l∈ls,d∉names l)
 (hroots:∀l,(l∈ls\/∃r,S.at r=some l/\∀c,r≠.cell d c)->∀c x,l.B8=some (.cell d c)->S.at (.cell d c)=some (.ow x) ->
  ls[c]?=some (.ow x)/\vs[c]?=(g.bv d)[c]?/\∀b,g.fp (.cell d c) b->nf c b)
 (hlen:vs.length=ls.length) (hl:∀(c:Nat) (l:AS),ls[c]?=some l->∃v,vs[c]?=some v/\B1 F S g w (nf c) l v)
 (I:∀(c:Nat) x,ls[c]?=some (.ow x)->(∀b,nf c b->¬F.K b)/\(∀r,CP S r->(∀c',r≠.cell d c')->∀b,nf c b->¬g.fp r b) /\
  (∀id,(get S.bx id).isSome->id≠d->¬nf c (g.β id))/\¬nf c blk/\∀(c':Nat) x',ls[c']?=some (.ow x')->c≠c'->∀b,nf c b->¬nf c' b)
 (hpin:d∈S.pin->(get S.bx d).isSome/\g.β d=blk):Inv F { S with bx:=Lv.put S.bx d ls} (g.GP d blk vs nf) a w':=by
 have tmpd:∀r:CL,(∃c,r=CL.cell d c)\/∀c,r≠CL.cell d c:=by
  intro r;by_cases y:∃c,r=CL.cell d c
  .exact .inl y
  .exact .inr λc hc=>y ⟨c,hc⟩
 have hrv:∀r,(∀c,r≠.cell d c)->(g.GP d blk vs nf).rv r=g.rv r:=by
  intro r q;cases r with
  |tmp s c=>rfl|cell b c=>
   have:b≠d:=by rintro rfl;exact q c rfl
   simp[Gh.rv,Gh.GP,this]
 have X:∀r,(∀c,r≠.cell d c)->(g.GP d blk vs nf).fp r=g.fp r:=by
  intro r q;cases r with
  |tmp s c=>rfl|cell b c=>
   have:b≠d:=by rintro rfl;exact q c rfl
   simp[Gh.GP,this]
 have hat:∀r,(∀c,r≠.cell d c)->({ S with bx:=Lv.put S.bx d ls}:St).at r=S.at r:=by
  intro r q;rw[Nc];cases r with
  |tmp s c=>rfl|cell b c=>
   have:b≠d:=by rintro rfl;exact q c rfl
   simp[this]
 have fpd:∀c,(g.GP d blk vs nf).fp (.cell d c)=nf c:=λc=>by simp[Gh.GP]
 have hKw:∀b,F.K b->w'.heap[b]?=w.heap[b]?:=λb e=>hw b (by rintro rfl;exact hK e) (BY (h.rlt b e) h.size)
 have hfw:∀r,CP S r->∀b,g.fp r b->w'.heap[b]?=w.heap[b]?:=by
  rintro r ⟨x,y⟩ b e;obtain⟨v,_,H⟩:=h.C0 r _ y;exact hw b (by rintro rfl;exact hfpb r ⟨x,y⟩ e) (Own.lt H b e)
 have tr:∀{fp:Blk} {l:AS} {v:Value},(l∈ls\/∃r,S.at r=some l/\∀c,r≠.cell d c)->(∀x,l=.ow x->∀b,fp b->w'.heap[b]?=w.heap[b]?) ->
  B1 F S g w fp l v->B1 F { S with bx:=Lv.put S.bx d ls} (g.GP d blk vs nf) w' fp l v:=by
  intro fp l v hmem hfpw H;by_cases how:∃x,l=.ow x
  .obtain⟨x,rfl⟩:=how;exact Own.frame H (hfpw x rfl)
  .have hn:∀x,l≠.ow x:=λx y=>how ⟨x,y⟩
   refine B1.any hn ((B1.any (fp':=λ_=>False) hn H).tr ?_ ?_ (λ_ h=>h.elim) hKw)
   .intro r q;obtain⟨x,y⟩:=H.alive q;rcases tmpd r with ⟨c,rfl⟩|Z
    .obtain⟨G,O,h3⟩:=hroots l hmem c x q y;refine⟨?_,?_,?_,hfw _ ⟨x,y⟩⟩
     .rw[Nc];simpa using G.trans y.symm
     .simpa[Gh.rv,Gh.GP] using O
     .intro b e;rw[fpd];exact h3 b e
    .exact⟨hat r Z,hrv r Z,λb e=>(X r Z).symm▸e,hfw r ⟨x,y⟩⟩
   .intro id j;by_cases B:id=d
    .subst B;rcases hnames with e|⟨G,O⟩
     .simp[Gh.GP,e]
     .rcases hmem with hm|⟨r,q,Z⟩
      .exact(O l hm j).elim
      .exact(G r l q Z j).elim
    .simp[Gh.GP,B]
 have J:∀c,CP { S with bx:=Lv.put S.bx d ls} (.cell d c)->∃x,ls[c]?=some (.ow x):=by
  rintro c ⟨x,y⟩;rw[Nc]at y;exact⟨x,by simpa using y⟩
 have hal:∀r,(∀c,r≠.cell d c)->CP { S with bx:=Lv.put S.bx d ls} r->CP S r:=by
  rintro r q ⟨x,y⟩;exact⟨x,(hat r q)▸y⟩
 have hsome:∀id,id≠d->(get (Lv.put S.bx d ls) id).isSome->(get S.bx id).isSome:=by
  intro id j hs;rw[GG,AT j]at hs;exact hs
 have hβd:(g.GP d blk vs nf).β d=blk:=by simp[Gh.GP]
 have hβo:∀id,id≠d->(g.GP d blk vs nf).β id=g.β id:=λid j=>by simp[Gh.GP,j]
 have hnlt:∀(c:Nat) x,ls[c]?=some (.ow x)->∀b,nf c b->w'.heap[b]?=w.heap[b]?:=by
  intro c x y b e;obtain⟨v,_,H⟩:=hl c _ y;exact hw b (by rintro rfl;exact(I c x y).2.2.2.1 e) (Own.lt H b e)
 refine { C0:=?_,tms:=h.tms,bxs:=?_,dis:=?_,Fh:=?_,HM:=?_,Gr:=?_,bxR:=?_,FD:=λb e=>(hKw b e).trans (h.FD b e),rlt:=h.rlt,still:=h.still.trans hs,defs:=h.defs,tsz:=h.tsz,pin:=?_}
 .intro r l L;rcases tmpd r with ⟨c,rfl⟩|q
  .rw[Nc]at L;simp only[if_true]at L;obtain⟨v,hv,H⟩:=hl c l L;refine⟨v,by simpa[Gh.rv,Gh.GP] using hv,?_⟩;rw[fpd];exact tr (.inl (Au L)) (by rintro x rfl;exact hnlt c x L) H
  .rw[hat r q]at L;obtain⟨v,hv,H⟩:=h.C0 r l L;refine⟨v,(hrv r q).trans hv,?_⟩;rw[X r q];exact tr (.inr ⟨r,L,q⟩) (by rintro x rfl;exact hfw r ⟨x,L⟩) H
 .intro id ls' hls;simp only[GG]at hls;by_cases j:id=d
  .subst j;simp only[if_true,AD]at hls;subst hls;exact⟨⟨E,by simpa[Gh.GP] using hblk⟩,by simpa[Gh.GP] using hlen⟩
  .simp only[AT j]at hls;obtain⟨⟨E',hE⟩,O⟩:=h.bxs id ls' hls;refine⟨⟨E',?_⟩,by simpa[Gh.GP,j] using O⟩;rw[hβo id j,hw _ (hβ id j (by simp[hls])) (BB.1 hE).1,hE];simp[Gh.GP,j]
 .intro r r' q hr' Z b e Q;rcases tmpd r with ⟨c,rfl⟩|G
  .obtain⟨x,y⟩:=J c q;rw[fpd]at e;rcases tmpd r' with ⟨c',rfl⟩|O
   .obtain⟨x',hx'⟩:=J c' hr';rw[fpd]at Q;exact(I c x y).2.2.2.2 c' x' hx' (by rintro rfl;exact Z rfl) b e Q
   .rw[X r' O]at Q;exact(I c x y).2.1 r' (hal r' O hr') O b e Q
  .rw[X r G]at e;rcases tmpd r' with ⟨c',rfl⟩|O
   .obtain⟨x',hx'⟩:=J c' hr';rw[fpd]at Q;exact(I c' x' hx').2.1 r (hal r G q) G b Q e
   .rw[X r' O]at Q;exact h.dis r r' (hal r G q) (hal r' O hr') Z b e Q
 .intro r id q j e;by_cases B:id=d
  .subst B;rw[hβd]at e;rcases tmpd r with ⟨c,rfl⟩|G
   .obtain⟨x,y⟩:=J c q;rw[fpd]at e;exact(I c x y).2.2.2.1 e
   .rw[X r G]at e;exact hfpb r (hal r G q) e
  .rw[hβo id B]at e;rcases tmpd r with ⟨c,rfl⟩|G
   .obtain⟨x,y⟩:=J c q;rw[fpd]at e;exact(I c x y).2.2.1 id (hsome id B j) B e
   .rw[X r G]at e;exact h.Fh r id (hal r G q) (hsome id B j) e
 .intro r q b e;rcases tmpd r with ⟨c,rfl⟩|G
  .obtain⟨x,y⟩:=J c q;rw[fpd]at e;exact(I c x y).1 b e
  .rw[X r G]at e;exact h.HM r (hal r G q) b e
 .intro id id' G O he;by_cases hi:id=d
  .by_cases Y:id'=d
   .exact hi.trans Y.symm
   .subst hi;rw[hβd,hβo id' Y]at he;exact(hβ id' Y (hsome id' Y O) he.symm).elim
  .by_cases Y:id'=d
   .subst Y;rw[hβd,hβo id hi]at he;exact(hβ id hi (hsome id hi G) he).elim
   .rw[hβo id hi,hβo id' Y]at he;exact h.Gr id id' (hsome id hi G) (hsome id' Y O) he
 .intro id G;by_cases hi:id=d
  .subst hi;rw[hβd];exact hK
  .rw[hβo id hi];exact h.bxR id (hsome id hi G)
 .intro p hp;obtain⟨G,O⟩:=h.pin p hp;refine⟨G,λhsm=>?_⟩;by_cases hi:p=d
  .subst hi;rw[hβd];exact(hpin hp).2.symm.trans (O (hpin hp).1)
  .rw[hβo p hi];exact O (hsome p hi hsm)
end
theorem Oz{α}(ls:List α) o  cs :(EC ls o cs).length=ls.length:=by
 induction cs generalizing ls o with
 |nil=>rfl|cons c cs e=>simp[EC,e]
theorem GO{α}(ls:List α) o  cs(h:o+cs.length<=ls.length) c  :
 (EC ls o cs)[c]?=if o<=c/\c<o+cs.length then cs[c-o]? else ls[c]?:=by
 induction cs generalizing ls o with
 |nil=>simp only[EC,AM,C9];rw[AT (by omega)]|cons x cs e=>
  grind[EC,List.length_cons]
theorem K1(ls:List α) o  cs(h:o+cs.length<=ls.length):EC ls o cs=ls.take o++cs++ls.drop (o+cs.length):=by
 apply List.ext_getElem?;intro c;rw[GO ls o cs h,BR,I5,I5]
 grind[List.length_take,min]
section
variable{F:Fix}{S S':St}{g g':Gh}{a a':Act}{w w':World}
variable{l:AS}{new:Array Value}{r:CL}{rows ys:List (List T)}{cs:List AS}{vs:List Value}{nf:Nat->Blk}
theorem aa{d}{l}(h:GA d l=false):d∉names l:=by
 cases l with
 |bp id off=>simp[GA,AS.Mg]at h;simp[names,Ne.symm h]|fn f caps=>
  grind[GA,List.any_eq_false,names,AS.Mg]
 |_=>simp[names]
theorem Ou{d c}(h:GA d l=false):l.B8≠some (.cell d c):=by
 intro e;have:=AEb e;cases l<;>simp_all[GA,AS.B8]
theorem MG(q:AS->Bool)(c:q (.t .top)=false)(h:(S.kill q).at r=some l):q l=false:=by
 grind[Hw,Option.map_eq_some_iff]
theorem Rs(q:AS->Bool)(c:q (.t .top)=false){ls:List AS}(h:l∈Eo q ls):q l=false:=by
 grind[List.getElem?_of_mem,G1,Option.map_eq_some_iff]
theorem Cells.grow(h:Inv F S g a w)(y:Cells F S g w cs vs nf)
 (G:∀b,b<w.heap.size->w'.heap[b]?=w.heap[b]?):Cells F S g w' cs vs nf:=by
 refine⟨y.1,?_,y.2.2⟩;intro c l J;obtain⟨v,L,e⟩:=y.2.1 c l J;refine⟨v,L,?_⟩;have B:∀r,CP S r->∀b,g.fp r b->w'.heap[b]?=w.heap[b]?:=by
  rintro r ⟨x,H⟩ b j;obtain⟨v,_,e⟩:=h.C0 r _ H;exact G b (Own.lt e b j)
 by_cases q:∃x,l=.ow x
 .obtain⟨x,rfl⟩:=q;exact Own.frame e λb j=>G b (Own.lt e b j)
 .have I:∀x,l≠.ow x:=λx H=>q ⟨x,H⟩
  exact B1.any I ((B1.any (fp':=λ_=>False) I e).tr (S':=S) (g':=g) (w':=w') (λO E=>⟨rfl,rfl,λ_ h=>h,B O (e.alive E)⟩) (λ_ _=>rfl) (λ_ h=>h.elim)
   λb j=>G b (BY (h.rlt b j) h.size))
def World.push(w:World)(o:Obj):World:={ w with heap:=w.heap.push o}
theorem FG{o}{b}(c:b<w.heap.size):(World.push w o).heap[b]?=w.heap[b]?:=by
 show (w.heap.push o)[b]?=_;rw[G4,AT (NR c)]
theorem LR{o}:(World.push w o).heap[w.heap.size]?=some o:=by
 show (w.heap.push o)[w.heap.size]?=_;rw[G4,AW rfl]
theorem Still.push{o}:Still w (World.push w o):=Still.alloc
def NJ(d:Nat)(l:AS):Bool:=FO d l||GA d l
theorem Inv.ATz(h:Inv F S g a w){d}(hd:d<F.N)(hp:d∉S.pin)(hc:Cells F S g w cs vs nf) E  :
 ∃g',Inv F { S.kill (NJ d) with tm:=Lv.put (S.kill (NJ d)).tm d ⟨.one,[.bp d 0]⟩,bx:=Lv.put (S.kill (NJ d)).bx d (Eo (NJ d) cs)} g'
  (a.put (some d) (.pointer (some ⟨w.heap.size,0,none⟩))) (World.push w (.cells vs.toArray E (0,0))):=by
 have hq:∀x,NJ d (.ow x)=false:=λx=>rfl
 have B:NJ d (.t .top)=false:=rfl;have j:∀{l},NJ d l=false->GA d l=false/\FO d l=false:=by
  intro l q;simp only[NJ,Bool.or_eq_false_iff]at q;exact⟨q.2,q.1⟩
 have Q:=h.kill (NJ d) hq;have y:=hc.kill (NJ d) hq;have Y:∀r,CP (S.kill (NJ d)) r->¬g.fp r w.heap.size:=by
  rintro r ⟨x,G⟩ J;obtain⟨v,_,I⟩:=Q.C0 r _ G;exact JU _ (Own.lt I _ J)
 have L:∀(c:Nat) x,(Eo (NJ d) cs)[c]?=some (.ow x)->¬nf c w.heap.size:=by
  intro c x G J;obtain⟨v,_,I⟩:=y.2.1 c _ G;exact JU _ (Own.lt I _ J)
 have h2:=Q.ALb (d:=d) (blk:=w.heap.size) (E:=E) (vs:=vs) (ls:=Eo (NJ d) cs) (nf:=nf) (w':=World.push w (.cells vs.toArray E (0,0)))
  Still.push (λb _ J=>FG J) LR (λhK=>JU _ (BY (h.rlt _ hK) h.size)) Y
  (by
   intro id _ H he;obtain⟨ls,X⟩:=Br.1 H;obtain⟨⟨E',hE⟩,_⟩:=Q.bxs id ls X;rw[he]at hE;simp at hE)
  (.inr ⟨λr l q _=>aa (j (MG _ B q)).1,λl q=>aa (j (Rs _ B q)).1⟩)
  (by
   rintro l (q|⟨r,q,_⟩) c x O _
   .exact(Ou (j (Rs _ B q)).1 O).elim
   .exact(Ou (j (MG _ B q)).1 O).elim)
  y.1 y.2.1 (λc x G=>⟨(y.2.2 c x G).1,λr O _=>(y.2.2 c x G).2.1 r O,λid H _=>(y.2.2 c x G).2.2.1 id H,L c x G,(y.2.2 c x G).2.2.2⟩)
  (λZ=>(hp Z).elim)
 refine⟨_,h2.put (d:=d) (e:=⟨.one,[.bp d 0]⟩) (vs:=[.pointer (some ⟨w.heap.size,0,none⟩)]) (nf:=λ_ _=>False) hd hp ?_ ?_ ?_⟩
 .intro r l q _;rw[Nc]at q;cases r with
  |tmp s c=>exact(j (MG _ B q)).2|cell b c=>
   simp only at q;split at q
   .exact(j (Rs _ B (Au q))).2
   .exact(j (MG _ B q)).2
 .simp[FO,AS.B8]
 .refine Cells.free rfl ?_ (by simp);intro c l q;cases c with|zero=>simp only[AN,AD]at q;subst q;exact⟨_,rfl,by show _=_;simp[Gh.GP]⟩|succ c=>simp at q
theorem AEj{blk:Nat}{cur:Array Value}{E:TypeId}(h:w.heap[blk]?=some (.cells cur E (0,0))):(w.setRow blk new).heap[blk]?=some (.cells new E (0,0)):=by
 simp[World.setRow,GK,h]
theorem setRow_other{blk b}(h:b≠blk):(w.setRow blk new).heap[b]?=w.heap[b]?:=by
 simp[World.setRow,GK,Ne.symm h]
theorem Inv.AV5(h:Inv F S g a w)(hc:Cells F S g w cs vs nf){id o:Nat}{ls:List AS}
 (hls:get (S.kill (Ie id o cs.length)).bx id=some ls) (hle:o+cs.length<=ls.length) :
 ∃g',Inv F { S.kill (Ie id o cs.length) with bx:=Lv.put (S.kill (Ie id o cs.length)).bx id (EC ls o (Eo (Ie id o cs.length) cs))} g' a
  (w.setRow (g.β id) ((g.bv id).take o++vs++(g.bv id).drop (o+vs.length)).toArray):=by
 generalize hqd:Ie id o cs.length=q at *;have hq:∀x,q (.ow x)=false:=λx=>by subst hqd;rfl
 have hqt:q (.t .top)=false:=by subst hqd;rfl
 have I:=h.kill q hq;have hc1:=hc.kill q hq;have hroot:∀{l:AS} {c:Nat},q l=false->l.B8=some (.cell id c)->¬(o<=c/\c<o+cs.length):=by
  intro l c G e L;subst hqd;simp only[Ie,e,decide_true,Bool.true_and,Ik,decide_eq_false_iff_not]at G;omega
 obtain⟨⟨E,hE⟩,hlen⟩:=I.bxs id ls hls;have hsome:(get (S.kill q).bx id).isSome:=by simp[hls]
 have hkl:(Eo q cs).length=cs.length:=Fa _ _;have hvl:vs.length=cs.length:=hc.1;have Z:o+vs.length<=(g.bv id).length:=by omega
 have B:∀c,(EC ls o (Eo q cs))[c]?=if o<=c/\c<o+cs.length then (Eo q cs)[c-o]? else ls[c]?:=by
  intro c;rw[GO _ _ _ (by omega),hkl]
 have hgetv:∀c,((g.bv id).take o++vs++(g.bv id).drop (o+vs.length))[c]?=if o<=c/\c<o+cs.length then vs[c-o]? else (g.bv id)[c]?:=by
  intro c;rw[<-K1 _ _ _ Z,GO _ _ _ Z,hvl]
 have y:∀c,(S.kill q).at (.cell id c)=ls[c]?:=by intro c;simp[St.at,hls]
 have hlen2:((g.bv id).take o++vs++(g.bv id).drop (o+vs.length)).length=(EC ls o (Eo q cs)).length:=by
  rw[<-K1 _ _ _ Z,Oz,Oz,hlen]
 let j:Nat->Blk:=λc=>if o<=c/\c<o+cs.length then nf (c-o) else g.fp (.cell id c)
 have hcase:∀(c:Nat) x,(EC ls o (Eo q cs))[c]?=some (.ow x) ->
  (o<=c/\c<o+cs.length/\(Eo q cs)[c-o]?=some (.ow x)/\j c=nf (c-o))\/(¬(o<=c/\c<o+cs.length)/\(S.kill q).at (.cell id c)=some (.ow x)/\j c=g.fp (.cell id c)):=by
  intro c x Q;rw[B]at Q;by_cases e:o<=c/\c<o+cs.length
  .rw[AW e]at Q;exact .inl ⟨e.1,e.2,Q,by simp[j,e]⟩
  .rw[AT e]at Q;exact .inr ⟨e,(y c).trans Q,by simp only[j,AT e]⟩
 refine⟨_,I.ALb (d:=id) (blk:=g.β id) (E:=E) (nf:=j) Still.setRow (λb L _=>setRow_other L) (AEj hE) (I.bxR id hsome)
  (λr e=>I.Fh r id e hsome) (λX H hs he=>H (I.Gr X id hs hsome he)) (.inl rfl) ?_ hlen2 ?_ ?_ (λ_=>⟨hsome,rfl⟩)⟩
 .intro l G c x e Q;have hql:q l=false:=by
   rcases G with G|⟨r,G,_⟩
   .obtain⟨c',O⟩:=B2 G;rw[B]at O;split at O
    .exact Rs _ hqt (Au O)
    .exact MG _ hqt ((y c').trans O)
   .exact MG _ hqt G
  have J:=hroot hql e;refine⟨?_,?_,?_⟩
  .rw[B,AT J,<-y];exact Q
  .rw[hgetv,AT J]
  .intro b L;simp only[j,AT J];exact L
 .intro c l G;rw[B]at G;by_cases e:o<=c/\c<o+cs.length
  .rw[AW e]at G;obtain⟨v,hv,hok⟩:=hc1.2.1 _ _ G;exact⟨v,by rw[hgetv,AW e];exact hv,by simp only[j,AW e];exact hok⟩
  .rw[AT e]at G;obtain⟨v,hv,hok⟩:=I.C0 (.cell id c) l ((y c).trans G);exact⟨v,by rw[hgetv,AT e];exact hv,by simp only[j,AT e];exact hok⟩
 .intro c x Q;rcases hcase c x Q with ⟨h3,Y,h5,h6⟩|⟨h3,Y,h6⟩
  .obtain⟨p1,p2,p3,p4⟩:=hc1.2.2 _ _ h5;rw[h6];refine⟨p1,λr e _=>p2 r e,λX hs _=>p3 X hs,p3 id hsome,?_⟩;intro c' x' hx' H b L;rcases hcase c' x' hx' with ⟨k3,k4,k5,k6⟩|⟨k3,k4,k6⟩
   .rw[k6];exact p4 _ _ k5 (by omega) b L
   .rw[k6];exact p2 _ ⟨_,k4⟩ b L
  .rw[h6];refine⟨I.HM _ ⟨_,Y⟩,λr e H=>I.dis _ _ ⟨_,Y⟩ e (Ne.symm (H c)),λX hs _=>I.Fh _ _ ⟨_,Y⟩ hs,I.Fh _ _ ⟨_,Y⟩ hsome,?_⟩;intro c' x' hx' H b L;rcases hcase c' x' hx' with ⟨k3,k4,k5,k6⟩|⟨k3,k4,k6⟩
   .rw[k6];exact λhb'=>(hc1.2.2 _ _ k5).2.1 _ ⟨_,Y⟩ b hb' L
   .rw[k6];exact I.dis _ _ ⟨_,Y⟩ ⟨_,k4⟩ (by simpa using H) b L
theorem Inv.yk(h:Inv F S g a w){e:Nat}{xs:List (List T)}{u:Value}{fp':Blk}(hx:S.at r=some (.ow (.sl e xs)))(hu:g.rv r=some u)(hl:ys.length=xs.length)
 (hs:Still w w') (hw:∀b,b<w.heap.size->¬g.fp r b->w'.heap[b]?=w.heap[b]?) (hown:Own w' (.sl e ys) u fp') (hK:∀b,fp' b->¬F.K b)
 (hdis:∀r',CP S r'->r'≠r->∀b,fp' b->¬g.fp r' b) (hB:∀id,(get S.bx id).isSome->¬fp' (g.β id)) :
 Inv F ((S.Bi r (.ow (.sl e ys))).kill (Fo r)) { g with fp:=λr'=>if r'=r then fp' else g.fp r'} a w':=by
 have Z:∀r',((S.Bi r (.ow (.sl e ys))).kill (Fo r)).at r'=(if r'=r then some (.ow (.sl e ys)) else S.at r').map λl=>if Fo r l then .t .top else l:=by
  intro r';rw[Hw,E5 hx]
 have Q:∀r',CP ((S.Bi r (.ow (.sl e ys))).kill (Fo r)) r'->CP S r':=by
  rintro r' ⟨x,hx'⟩;rw[Z,AO]at hx';obtain⟨l,H,I⟩:=hx';split at I
  .cases I
  .subst I;split at H
   .subst_vars;exact⟨_,hx⟩
   .exact⟨x,H⟩
 have hsome:∀id,(get ((S.Bi r (.ow (.sl e ys))).kill (Fo r)).bx id).isSome->(get S.bx id).isSome:=by
  intro id hid;simp only[St.kill,DY,Eu]at hid
  rwa[Dv]at hid
 have hKw:∀b,F.K b->w'.heap[b]?=w.heap[b]?:=λb c=>hw b (BY (h.rlt b c) h.size) λhf=>h.HM r ⟨_,hx⟩ b hf c
 have hfw:∀r',CP S r'->r'≠r->∀b,g.fp r' b->w'.heap[b]?=w.heap[b]?:=by
  rintro r' ⟨x,hx'⟩ G b c;obtain⟨v,_,L⟩:=h.C0 r' _ hx';exact hw b (Own.lt L b c) (h.dis r' r ⟨x,hx'⟩ ⟨_,hx⟩ G b c)
 let g':Gh:={ g with fp:=λr'=>if r'=r then fp' else g.fp r'}
 have J:g'.fp r=fp':=by simp[g']
 have B:∀r',r'≠r->g'.fp r'=g.fp r':=λr' G=>by simp[g',G]
 have tr:∀{fp:Blk} {l:AS} {v:Value},Fo r l=false->(∀x,l≠.ow x)->B1 F S g w fp l v->B1 F ((S.Bi r (.ow (.sl e ys))).kill (Fo r)) g' w' fp l v:=by
  intro fp l v hin hno L;by_cases hr:l.B8=some r
  .match l,L with
   |.al q sub,⟨x,u1,y,O,h3⟩=>
    cases hr;rw[hx]at y;cases y;refine⟨.sl e ys,u1,by rw[Z,AW rfl];rfl,O,?_⟩;cases sub with
    |none=>exact h3|some p=>
     obtain⟨lo,n⟩:=p;obtain⟨blk,off,len,cap,off',cap',q1,q2,q3,q4⟩|⟨q1,q2,rfl,q4⟩:=h3
     .exact .inl ⟨blk,off,len,cap,off',cap',q1,q2,by omega,q4⟩
     .exact .inr ⟨q1,q2,List.eq_nil_of_length_eq_zero (by simpa using hl),q4⟩
   |.ep q i j,⟨Y,xs1,blk,off,len,cap,y,O,h3,h4⟩=>
    cases hr;rw[hx]at y;cases y;exact⟨e,ys,blk,off,len,cap,by rw[Z,AW rfl];rfl,O,by omega,h4⟩
   |.vw (.own q _) Y xs1,_=>cases hr;simp[Fo]at hin
   |.vp (.own q _) cs1,_=>cases hr;simp[Fo]at hin
  .refine B1.any hno ((B1.any (fp':=λ_=>False) hno L).tr ?_ (λ_ _=>rfl) (λ_ h=>h.elim) hKw);intro q hr1;obtain⟨x,hx1⟩:=L.alive hr1;have G:q≠r:=by rintro rfl;exact hr hr1
   refine⟨?_,rfl,λb c=>by rw[B q G];exact c,hfw q ⟨x,hx1⟩ G⟩;rw[Z,AT G,hx1];rfl
 show Inv F _ g' a w';refine { C0:=?_,tms:=?_,bxs:=?_,dis:=?_,Fh:=?_,HM:=?_,Gr:=λid id' y O=>h.Gr id id' (hsome id y) (hsome id' O),bxR:=λid y=>h.bxR id (hsome id y),FD:=λb c=>(hKw b c).trans (h.FD b c),rlt:=h.rlt,still:=h.still.trans hs,defs:=h.defs,tsz:=h.tsz,pin:=?_}
 .intro r' l hl;rw[Z,AO]at hl;obtain⟨l0,H,I⟩:=hl;by_cases hr:r'=r
  .subst hr;rw[AW rfl]at H;cases H;simp only[Fo,if_false,Bool.false_eq_true]at I;subst I;exact⟨u,hu,by rw[J];exact hown⟩
  .rw[AT hr]at H;obtain⟨v,hv,L⟩:=h.C0 r' l0 H;refine⟨v,hv,?_⟩;split at I
   .subst I;exact B1.top
   .rename_i hin;subst I;by_cases how:∃x,l0=.ow x
    .obtain⟨x,rfl⟩:=how;rw[B r' hr];exact Own.frame L (hfw r' ⟨x,H⟩ hr)
    .have hno:∀x,l0≠.ow x:=λx hx=>how ⟨x,hx⟩
     exact B1.any hno (tr (by simpa using hin) hno L)
 .intro s e' he;simp only[St.kill,FZ,AO]at he;obtain⟨Y,he1,rfl⟩:=he;obtain⟨e0,y,O,h3⟩:=MX he1;obtain⟨p1,p2,p3⟩:=h.tms s e0 y;exact⟨p1,by rw[p2,O],by rw[p3,Fa,h3]⟩
 .intro id ls' hls;simp only[St.kill,DY,AO]at hls;obtain⟨l1,H,rfl⟩:=hls;obtain⟨l0,y,O⟩:=JV H;obtain⟨⟨E,hE⟩,p2⟩:=h.bxs id l0 y;refine⟨⟨E,(hw _ (BB.1 hE).1 λhf=>h.Fh r id ⟨_,hx⟩ (by simp[y]) hf).trans hE⟩,by rw[p2,Fa,O]⟩
 .intro q r2 y O G b c X;by_cases Y:q=r
  .subst Y;rw[J]at c;rw[B r2 (Ne.symm G)]at X;exact hdis r2 (Q r2 O) (Ne.symm G) b c X
  .rw[B q Y]at c;by_cases e2:r2=r
   .subst e2;rw[J]at X;exact hdis q (Q q y) Y b X c
   .rw[B r2 e2]at X;exact h.dis q r2 (Q q y) (Q r2 O) G b c X
 .intro q id y hid c;by_cases Y:q=r
  .subst Y;rw[J]at c;exact hB id (hsome id hid) c
  .rw[B q Y]at c;exact h.Fh q id (Q q y) (hsome id hid) c
 .intro q y b c;by_cases Y:q=r
  .subst Y;rw[J]at c;exact hK b c
  .rw[B q Y]at c;exact h.HM q (Q q y) b c
 .intro p hp;have hpp:p∈S.pin:=by
   have:((S.Bi r (.ow (.sl e ys))).kill (Fo r)).pin=S.pin:=HZ
   rwa[this]at hp
  obtain⟨y,O⟩:=h.pin p hpp;exact⟨y,λhs=>O (hsome p hs)⟩
theorem Inv.AVd(h:Inv F S g a w){e:Nat}{xs:List (List T)}{u:Value}{fp':Blk}(G:S.at r=some (.ow (.sl e xs)))(B:g.rv r=some u)(q:ys.length=xs.length)
 (y:Still w w') (E:∀b,b<w.heap.size->¬g.fp r b->w'.heap[b]?=w.heap[b]?) (j:Own w' (.sl e ys) u fp') (hK:∀b,fp' b->¬F.K b)
 (c:∀r',CP S r'->r'≠r->∀b,fp' b->¬g.fp r' b) (hB:∀id,(get S.bx id).isSome->¬fp' (g.β id)) :
 ∃g',Inv F ((S.Bi r (.ow (.sl e ys))).kill (Fo r)) g' a w':=⟨_,h.yk G B q y E j hK c hB⟩
theorem zu{i j}{x y}(h:at2 rows i j=some y) c e :at2 (Jg rows i j x) c e=if c=i/\e=j then some x else at2 rows c e:=by
 grind[at2,List.getElem?_eq_some_iff,List.getD,Jg]
theorem Q2{i j}{x}:(Jg rows i j x).length=rows.length:=by simp[Jg]
theorem tK{i j e}{x}(h:∀row∈rows,row.length=e)(hi:i<rows.length):∀row∈Jg rows i j x,row.length=e:=by
 intro row c;rcases Df c with c|rfl
 .exact h row c
 grind[List.length_set,List.getD]
theorem Own.hole{e:Nat}{rows:List (List T)}{blk off len cap:Nat}{fp:Blk}{i j:Nat}{y:T}{v:Value}(h:Own w (.sl e rows) (.slice (some ⟨blk,off,none⟩) len cap) fp)(O:at2 rows i j=some y)
 (hv:w.cell? ⟨blk,off+i*e+j,none⟩=some v) :
 ∃S0 fp':Blk,Own w y v S0/\Own w (.sl e (Jg rows i j .top)) (.slice (some ⟨blk,off,none⟩) len cap) fp'/\(∀b,S0 b->fp b)/\(∀b,fp' b->fp b)/\∀b,S0 b->¬fp' b:=by
 cases h with
 |sc h _ _=>exact h.elim|sl c f h1 h2 h3 h4 h5 h6 h7 h8 h9 Q=>
  have hc:c i j=v:=by
   rw[h4.cell,h6 i j y O]at hv;exact Option.some.inj hv
  subst hc;have L:=h7 i j y O;have hi:=uC O;have H:∀q B x,at2 (Jg rows i j .top) q B=some x->(q=i/\B=j/\x=.top)\/(¬(q=i/\B=j)/\at2 rows q B=some x):=by
   intro q B x I;rw[zu O]at I;split at I
   .rename_i G;exact .inl ⟨G.1,G.2,(Option.some.inj I).symm⟩
   .rename_i G;exact .inr ⟨G,I⟩
  refine⟨f i j,λb=>b=blk\/∃q B x,at2 (Jg rows i j .top) q B=some x/\(if q=i/\B=j then λ_=>False else f q B) b,L,
   .sl c (λq B=>if q=i/\B=j then λ_=>False else f q B) (by rw[Q2];exact h1) h2 (tK h3 hi) h4 h5 ?_ ?_ ?_ ?_ (λb=>Iff.rfl),?_,?_,?_⟩
  .intro q B x I;rcases H q B x I with ⟨rfl,rfl,rfl⟩|⟨G,E⟩
   .exact h6 _ _ _ O
   .exact h6 _ _ _ E
  .intro q B x I;rcases H q B x I with ⟨rfl,rfl,rfl⟩|⟨G,E⟩
   .exact .sc trivial L.one (by simp)
   .rw[AT G];exact h7 _ _ _ E
  .intro q B x I;rcases H q B x I with ⟨rfl,rfl,rfl⟩|⟨G,E⟩
   .simp
   .rw[AT G];exact h8 _ _ _ E
  .intro i1 j1 x1 i2 j2 x2 hx1 hx2 hne b J;rcases H i1 j1 x1 hx1 with ⟨rfl,rfl,rfl⟩|⟨G,Y⟩
   .simp at J
   .rw[AT G]at J;rcases H i2 j2 x2 hx2 with ⟨rfl,rfl,rfl⟩|⟨hh2,Z⟩
    .simp
    .rw[AT hh2];exact h9 _ _ _ _ _ _ Y Z hne b J
  .intro b J;exact(Q b).2 (.inr ⟨i,j,y,O,J⟩)
  .rintro b (rfl|⟨q,B,x,I,J⟩)
   .exact(Q _).2 (.inl rfl)
   .rcases H q B x I with ⟨rfl,rfl,rfl⟩|⟨G,E⟩
    .simp at J
    .rw[AT G]at J;exact(Q b).2 (.inr ⟨q,B,x,E,J⟩)
  .rintro b J (rfl|⟨q,B,x,I,X⟩)
   .exact h8 i j y O J
   .rcases H q B x I with ⟨rfl,rfl,rfl⟩|⟨G,E⟩
    .simp at X
    .rw[AT G]at X;exact h9 i j y q B x O E (by rintro rfl rfl;exact G ⟨rfl,rfl⟩) b J X
def ALw(x x':T):Prop:=x'=x\/∃e xs xs',x=.sl e xs/\x'=.sl e xs'/\xs'.length=xs.length
theorem ALw.trans{x y z}(h:ALw x y)(j:ALw y z):ALw x z:=by
 rcases h with rfl|⟨e,xs,ys,rfl,rfl,q⟩
 .exact j
 .rcases j with rfl|⟨H,E,G,B,rfl,c⟩
  .exact .inr ⟨e,xs,ys,rfl,rfl,q⟩
  .cases B;exact .inr ⟨e,xs,G,rfl,rfl,c.trans q⟩
structure JM(F:Fix)(S S':St)(g g':Gh)(a:Act)(w:World):Prop where
 inv:Inv F S' g' a w
 ADt:∀r x',S'.at r=some (.ow x')->∃x,S.at r=some (.ow x)/\ALw x x'
 bx:∀id,(get S'.bx id).isSome->(get S.bx id).isSome
 pin:S'.pin=S.pin
 tv:g'.tv=g.tv
 bv:g'.bv=g.bv
 β:g'.β=g.β
 fp:∀r b,g'.fp r b->g.fp r b
theorem SS.toG(h:SS F S S' g a w):JM F S S' g g a w:=⟨h.inv,λr x c=>⟨x,h.same r x c,.inl rfl⟩,h.bx,h.pin,rfl,rfl,rfl,λ_ _ h=>h⟩
theorem JM.al(h:JM F S S' g g' a w):∀r,CP S' r->CP S r:=λr ⟨x,c⟩=>let ⟨y,e,_⟩:=h.ADt r x c;⟨y,e⟩
theorem JM.rv(h:JM F S S' g g' a w) r :g'.rv r=g.rv r:=by cases r<;>simp[Gh.rv,h.tv,h.bv]
theorem JM.trans{S2}{q}(h:JM F S S' g g' a w)(c:JM F S' S2 g' q a w):JM F S S2 g q a w:=
 ⟨c.inv,λr x G=>let ⟨y,H,E⟩:=c.ADt r x G;let ⟨z,I,j⟩:=h.ADt r y H;⟨z,I,j.trans E⟩,λid e=>h.bx id (c.bx id e),c.pin.trans h.pin,c.tv.trans h.tv,c.bv.trans h.bv,c.β.trans h.β,λr b B=>h.fp r b (c.fp r b B)⟩
theorem tV(h:Inv F S g a w){x:T}(e:S.at r=some (.ow x)):SS F S (S.out r) g a w:=
 ⟨h.out e,λ_ _ j=>nE e j,λ_ c=>V5 c,ya⟩
theorem B1.off{fp}{v}(h:B1 F S g w fp l v)(B:l.B8≠some r)(hS:∀r',r'≠r->CP S r'->S'.at r'=S.at r')(y:∀r',r'≠r->g'.fp r'=g.fp r')(E:∀r',g'.rv r'=g.rv r')(hβ:g'.β=g.β):B1 F S' g' w fp l v:=by
 refine h.tr ?_ (λ_ _=>by rw[hβ]) (λ_ _=>rfl) λ_ _=>rfl
 intro j e;have c:j≠r:=by rintro rfl;exact B e
 exact⟨hS j c (h.alive e),E j,λb q=>by rw[y j c];exact q,λ_ _=>rfl⟩
theorem Ol{i j}(c:S.pull r i j=some S'):∃e rows,S.at r=some (.ow (.sl e rows))/\S'=(S.Bi r (.ow (.sl e (Jg rows i j .top)))).kill (Fo r):=by
 grind[St.pull,Option.some.inj]
theorem PY{e:Nat}{ys:List (List T)}(c:S.at r=some (.ow (.sl e rows)))(r':CL) :
 ((S.Bi r (.ow (.sl e ys))).kill (Fo r)).at r'=(if r'=r then some (.ow (.sl e ys)) else S.at r').map λl=>if Fo r l then .t .top else l:=by
 rw[Hw,E5 c]
theorem sd{e:Nat}(y:S.at r=some (.ow (.sl e rows)))(B:ys.length=rows.length) :
 ∀r' q,((S.Bi r (.ow (.sl e ys))).kill (Fo r)).at r'=some (.ow q)->∃x,S.at r'=some (.ow x)/\ALw x q:=by
 intro r' q j;rw[PY y,AO]at j;obtain⟨l,c,h⟩:=j;split at h
 .cases h
 .subst h;split at c
  .subst_vars
   cases c;exact⟨_,y,.inr ⟨e,rows,ys,rfl,rfl,B⟩⟩
  .exact⟨q,c,.inl rfl⟩
theorem AXl{e:Nat}{ys:List (List T)}(j:S.at r=some (.ow (.sl e rows))) :
 ∀r',r'≠r->CP S r'->((S.Bi r (.ow (.sl e ys))).kill (Fo r)).at r'=S.at r':=by
 rintro r' c ⟨x,h⟩;rw[PY j,AT c,h];rfl
theorem AXm{id:Nat}(h:(get ((S.Bi r l).kill (Fo r)).bx id).isSome):(get S.bx id).isSome:=by
 simp only[St.kill,DY,Eu]at h
 rwa[Dv]at h
theorem AEI:((S.Bi r l).kill (Fo r)).pin=S.pin:=HZ
theorem Inv.pull(h:Inv F S g a w){i j e:Nat}{xs:List (List T)}{v:Value}(X:S.pull r i j=some S')(Q:AtC S g w r (some (i,j)) e xs v) :
 ∃(S0:Blk) (g':Gh),JM F S S' g g' a w/\Own w (.sl e xs) v S0/\(∀b,S0 b->g.fp r b)/\(∀b,S0 b->¬g'.fp r b)/\(∀r',r'≠r->g'.fp r'=g.fp r') /\
  (∀r',r'≠r->CP S r'->S'.at r'=S.at r')/\CP S r:=by
 obtain⟨e0,rows,c,rfl⟩:=Ol X;obtain⟨e1,rows1,blk,off,len,cap,L,O,Y,k4,Z⟩:=Q;rw[c]at L;cases L;obtain⟨u,J,E⟩:=h.C0 r _ c;rw[O]at J;cases J;obtain⟨S0,fp',o1,o2,o3,I,o5⟩:=Own.hole E Y Z;have B:=h.yk (w':=w) (ys:=Jg rows i j .top) (fp':=fp') c O Q2 Still.refl (λ_ _ _=>rfl) o2 (λb y=>h.HM r ⟨_,c⟩ b (I b y)) (λr' H G b y=>h.dis r r' ⟨_,c⟩ H (Ne.symm G) b (I b y))
  (λid q y=>h.Fh r id ⟨_,c⟩ q (I _ y))
 refine⟨S0,_,⟨B,sd c Q2,λid q=>AXm q,AEI,rfl,rfl,rfl,?_⟩,o1,o3,?_,?_,AXl c,⟨_,c⟩⟩
 .grind
 .grind
 grind
theorem yZ{r}{ls}(h:onR r ls=false):∀l∈ls,l.B8≠some r:=by
 induction ls with
 |nil=>simp|cons l ls c=>
  grind[onR,Bool.or_eq_false_iff,decide_eq_false_iff_not]
def AOq(F:Fix)(S:St)(g:Gh)(w:World)(cs:List T)(vs:List Value)(nf:Nat->Blk):Prop:=
 vs.length=cs.length/\(∀(c:Nat) x,cs[c]?=some x->∃v,vs[c]?=some v/\Own w x v (nf c)) /\
  (∀c b,c<cs.length->nf c b->¬F.K b)/\(∀c r b,c<cs.length->CP S r->nf c b->¬g.fp r b)/\(∀c id,c<cs.length->(get S.bx id).isSome->¬nf c (g.β id)) /\
  ∀c c' b,c<cs.length->c'<cs.length->c≠c'->nf c b->¬nf c' b
theorem YY{ls:List AS}{cs:List T}{vs:List Value}(h:Inv F S g a w)(hn:∀x,AS.ow x∉ls)(X:vs.length=ls.length)
 (hok:∀(c:Nat) (l:AS),ls[c]?=some l->∃v,vs[c]?=some v/\(∀r,l.B8=some r->CP S r->B1 F S g w (λ_=>False) l v)/\(l.B8=none->B1 F S g w (λ_=>False) l v))
 (G:D1 S ls=some (S',cs)) :
 ∃g',JM F S S' g g' a w /\
 ∃nf:Nat->Blk,AOq F S' g' w cs vs nf/\∀c b,c<cs.length->nf c b->∃l r,ls[c]?=some l/\l.B8=some r/\CP S r/\g.fp r b:=by
 induction ls generalizing S S' g cs vs with
 |nil=>
  simp only[D1,AD,A6]at G;obtain⟨rfl,rfl⟩:=G;exact⟨g,SS.toG ⟨h,λ_ _ h=>h,λ_ h=>h,rfl⟩,λ_ _=>False,⟨X,by simp,by simp,by simp,by simp,by simp⟩,by simp⟩
 |cons l ls ih=>
  obtain⟨v,vs,rfl⟩:∃v vs',vs=v::vs':=by cases vs with|nil=>simp at X|cons v vs=>exact⟨v,vs,rfl⟩
  simp only[AI,Hl]at X;have hn':∀x,AS.ow x∉ls:=λx O=>hn x (Af _ O)
  obtain⟨v0,hv0,hroot,hnone⟩:=hok 0 l rfl;simp only[AN,AD]at hv0;subst hv0;have step:∀(r:CL) (_:l.B8=some r) (y:T) (S0:Blk) (S1 S2:St) (g1:Gh) (B:List T),JM F S S1 g g1 a w->CP S r->(∀b,S0 b->g.fp r b)->(∀b,S0 b->CP S1 r->¬g1.fp r b)->(∀l'∈ls,∀v',(∀r',l'.B8=some r'->CP S r'->B1 F S g w (λ_=>False) l' v')->(l'.B8=none->B1 F S g w (λ_=>False) l' v') ->
   (∀r',l'.B8=some r'->CP S1 r'->B1 F S1 g1 w (λ_=>False) l' v')/\(l'.B8=none->B1 F S1 g1 w (λ_=>False) l' v'))->Own w y v S0->D1 S1 ls=some (S2,B) ->
   ∃g2,JM F S S2 g g2 a w/\∃nf:Nat->Blk,AOq F S2 g2 w (y::B) (v::vs) nf/\∀c b,c<(y::B).length->nf c b->∃l' r,(l::ls)[c]?=some l'/\l'.B8=some r/\CP S r/\g.fp r b:=by
   intro r hlr y S0 S1 S2 g1 B hT1 I hS0 hdis hleaf hO J;obtain⟨g2,hT2,nf,hT,hnf⟩:=ih (S:=S1) (S':=S2) (g:=g1) (cs:=B) (vs:=vs) hT1.inv hn' X (by
    intro c l' Q;obtain⟨v',hv',hk1,hk2⟩:=hok (c+1) l' (by simpa using Q);have:=hleaf l' (Au Q) v' hk1 hk2;exact⟨v',by simpa using hv',this.1,this.2⟩) J
   obtain⟨t1,t2,t3,t4,t5,t6⟩:=hT;have hTT:=hT1.trans hT2;have hS0':∀r' b,CP S2 r'->S0 b->¬g2.fp r' b:=by
    intro r' b H E Y;have hb1:=hT2.fp r' b Y;have hal1:=hT2.al r' H;by_cases hrr:r'=r
    .subst hrr;exact hdis b E hal1 hb1
    .exact h.dis r r' I (hT1.al r' hal1) (Ne.symm hrr) b (hS0 b E) (hT1.fp r' b hb1)
   refine⟨g2,hTT,λc=>match c with|0=>S0|c+1=>nf c,⟨by simpa using t1,?_,?_,?_,?_,?_⟩,?_⟩
   .intro c y' Z;cases c with|zero=>simp only[AN,AD]at Z;subst Z;exact⟨v,rfl,hO⟩|succ c=>exact t2 c y' (by simpa using Z)
   .intro c b L E;cases c with|zero=>exact h.HM r I b (hS0 b E)|succ c=>exact t3 c b (by simpa using L) E
   .intro c r' b L H E;cases c with|zero=>exact hS0' r' b H E|succ c=>exact t4 c r' b (by simpa using L) H E
   .intro c id L hid E;cases c with|zero=>rw[hTT.β]at E;exact h.Fh r id I (hTT.bx id hid) (hS0 _ E)|succ c=>exact t5 c id (by simpa using L) hid E
   .have hcross:∀c b,c<B.length->S0 b->¬nf c b:=by
     intro c b L E Y;obtain⟨_,r',_,_,H,hf⟩:=hnf c b L Y;by_cases hrr:r'=r
     .subst hrr;exact hdis b E H hf
     .exact h.dis r r' I (hT1.al r' H) (Ne.symm hrr) b (hS0 b E) (hT1.fp r' b hf)
    intro c c' b L hc' hne E;cases c with
    |zero=>
     cases c' with
     |zero=>exact(hne rfl).elim|succ c'=>exact hcross c' b (by simpa using hc') E
    |succ c=>
     cases c' with
     |zero=>exact λY=>hcross c b (by simpa using L) Y E|succ c'=>exact t6 c c' b (by simpa using L) (by simpa using hc') (by omega) E
   .intro c b L E;cases c with
    |zero=>exact⟨l,r,rfl,hlr,I,hS0 b E⟩|succ c=>
     obtain⟨l',r',Q,hlr',H,hf⟩:=hnf c b (by simpa using L) E;exact⟨l',r',by simpa using Q,hlr',hT1.al r' H,hT1.fp r' b hf⟩
  have stepO:∀(r:CL) (_:l.B8=some r) (x y:T) (S0:Blk) (S1:St) (B:List T),S.at r=some (.ow x)->(∀b,S0 b->g.fp r b)->Own w y v S0->D1 (S.out r) ls=some (S1,B) ->
   ∃g2,JM F S S1 g g2 a w/\∃nf:Nat->Blk,AOq F S1 g2 w (y::B) (v::vs) nf/\∀c b,c<(y::B).length->nf c b->∃l' r,(l::ls)[c]?=some l'/\l'.B8=some r/\CP S r/\g.fp r b:=by
   intro r hlr x y S0 S1 B O hS0 hO J;refine step r hlr y S0 (S.out r) S1 g B (tV h O).toG ⟨x,O⟩ hS0 (λb _ I=>absurd rfl (Ix O I).1) ?_ hO J;intro l' _ v' hk1 hk2;refine⟨?_,λhr=>(hk2 hr).out O (by simp[hr])⟩;intro r' H I;have:=Ix O I;exact(hk1 r' H this.2).out O (by rw[H];simpa using this.1)
  cases l with
  |t x=>
   simp only[D1]at G;split at G
   .cases G
   .rename_i htop;split at G
    .rename_i S1 B J;simp only[AD,A6]at G;obtain⟨rfl,rfl⟩:=G;obtain⟨g1,htaken,nf,hT,hnf⟩:=ih (S:=S) (S':=S1) (g:=g) (cs:=B) (vs:=vs) h hn' X (by
      intro c l' Q;obtain⟨v',hv',hk⟩:=hok (c+1) l' (by simpa using Q);exact⟨v',by simpa using hv',hk⟩) J
     obtain⟨t1,t2,t3,t4,t5,t6⟩:=hT;have hsc:Sc x v:=hnone rfl;refine⟨g1,htaken,λc=>match c with|0=>λ_=>False|c+1=>nf c,⟨by simpa using t1,?_,?_,?_,?_,?_⟩,?_⟩
     .intro c y' Z;cases c with|zero=>simp only[AN,AD]at Z;subst Z;exact⟨v,rfl,.sc hsc (hsc.one (by simpa using htop)) λ_ h=>h⟩|succ c=>exact t2 c y' (by simpa using Z)
     .intro c b L E;cases c with|zero=>exact E.elim|succ c=>exact t3 c b (by simpa using L) E
     .intro c r' b L H E;cases c with|zero=>exact E.elim|succ c=>exact t4 c r' b (by simpa using L) H E
     .intro c id L hid E;cases c with|zero=>exact E.elim|succ c=>exact t5 c id (by simpa using L) hid E
     .intro c c' b L hc' hne E;cases c with
      |zero=>exact E.elim|succ c=>
       cases c' with
       |zero=>exact λY=>Y.elim|succ c'=>exact t6 c c' b (by simpa using L) (by simpa using hc') (by omega) E
     .intro c b L E;cases c with|zero=>exact E.elim|succ c=>exact hnf c b (by simpa using L) E
    .cases G
  |al r sub=>
   simp only[D1]at G;split at G
   .rename_i x O;split at G
    .rename_i S1 B J;simp only[AD,A6]at G;obtain⟨rfl,rfl⟩:=G;obtain⟨x',u,hx',hu,hsub⟩:=hroot r rfl ⟨x,O⟩;rw[O]at hx';cases hx';have hown:Own w x u (g.fp r):=by
      obtain⟨u',hu',hk⟩:=h.C0 r _ O;rw[hu]at hu';cases hu';exact hk
     obtain⟨S0,hS0,hO⟩:=R3 hown hsub;exact stepO r rfl x _ S0 S1 B O hS0 hO J
    .cases G
   .cases G
  |vw s e xs=>
   cases s with
   |old k=>simp[D1]at G|own r p=>
    cases p with
    |none=>
     simp only[D1]at G;split at G
     .rename_i x O;split at G
      .rename_i S1 B J;simp only[AD,A6]at G;obtain⟨rfl,rfl⟩:=G;obtain⟨_,⟨S0,hS0,hO⟩,_⟩:=hroot r rfl ⟨x,O⟩;exact stepO r rfl x _ S0 S1 B O hS0 hO J
      .cases G
     .cases G
    |some q=>
     obtain⟨i,j⟩:=q;simp only[D1]at G;split at G
     .cases G
     .rename_i hon;split at G
      .rename_i S1 hpl;split at G
       .rename_i S2 B J;simp only[AD,A6]at G;obtain⟨rfl,rfl⟩:=G;obtain⟨e0,rows,O,_⟩:=Ol hpl;obtain⟨_,_,hat⟩:=hroot r rfl ⟨_,O⟩;obtain⟨S0,g1,q1,q2,q3,q4,q5,q6,q7⟩:=h.pull hpl hat;refine step r rfl _ S0 S1 S2 g1 B q1 q7 q3 (λb E _=>q4 b E) ?_ q2 J;intro l' Q v' hk1 hk2;have hne:=yZ (by simpa using hon) l' Q;exact⟨λr' H I=>(hk1 r' H (q1.al r' I)).off hne q6 q5 q1.rv q1.β,λhr=>(hk2 hr).off hne q6 q5 q1.rv q1.β⟩
       .cases G
      .cases G
  |ow x=>exact(hn x (by simp)).elim|und=>simp[D1]at G|ep _ _ _=>simp[D1]at G|vp s cs=>simp[D1]at G|bp _ _=>simp[D1]at G|fn _ _=>simp[D1]at G
end
def K6:Value->Option Nat|.pointer (some a)=>some a.block|.slice (some a) _ _=>some a.block|_=>none
def AOo(v:Value)(w w1:World):Prop:=∀b,K6 v=some b->w1.heap[b]?=w.heap[b]?
def Rd(F:Fix)(S:St)(g:Gh)(w:World)(e:Ent)(v:Value):Prop:=
 ∃vs,v=mkV e.sh vs/\vs.length=e.cs.length/\(∀x,AS.ow x∉e.cs)/\∀(c:Nat) (l:AS),e.cs[c]?=some l->∃u,vs[c]?=some u/\B1 F S g w (λ_=>False) l u
section
variable{F:Fix}{S S':St}{g g':Gh}{a a':Act}{w w':World}
variable{l:AS}{cs:List AS}{d:Nat}{v:Value}
theorem WS s  cs  o c :(Sk s o cs)[c]?=(cs[c]?).map (AS.ali s (o+c)):=by
 induction cs generalizing o c with
 |nil=>simp[Sk]|cons l ls e=>
  grind[Sk,List.getElem?_cons_succ]
theorem zn s  cs  o :(Sk s o cs).length=cs.length:=by
 induction cs generalizing o with
 |nil=>rfl|cons l ls c=>simp[Sk,c]
theorem AOv{s c}{x}:l.ali s c≠.ow x:=by cases l<;>simp[AS.ali]
theorem AXI{a b}(h:AXH a b=true):a=b:=by
 cases a<;>cases b<;>simp_all[AXH]
theorem Wc{x}(h:RN v x=true):Sc x v:=by
 unfold RN at h;split at h
 .rename_i y c;have:=AXI h;subst this;unfold tOf at c;split at c<;>simp at c<;>subst c<;>simp[Sc]
 .cases h
theorem AOu{r:CL}{s c:Nat}(j:r=.tmp s c)(q:S.at r=some l)(y:g.rv r=some v)(h:B1 F S g w (g.fp r) l v) :
 B1 F S g w (λ_=>False) (l.ali s c) v:=by
 subst j;by_cases e:∃x,l=.ow x
 .obtain⟨x,rfl⟩:=e;exact⟨x,v,q,y,rfl⟩
 .have:l.ali s c=l:=by cases l<;>first|rfl|exact(e ⟨_,rfl⟩).elim
  grind[B1.any]
theorem Oq(h:Inv F S g a w){o}{x}{e}(j:S.rd x=some e)(q:CH o x=true)(Z:∀p∈CI o x,Mt F.A F.P p.1 p.2):Rd F S g w e (a.eval o):=by
 match o,x,q with
 |.tmp t,.tmp t',q=>
  simp only[CH,beq_iff_eq]at q;subst q;simp only[St.rd]at j;split at j
  .rename_i O E;cases j;obtain⟨_,X,Y⟩:=h.tms t O E;refine⟨g.tv t,X,by simp[zn,Y],?_,?_⟩
   .intro x hx;obtain⟨c,I⟩:=B2 hx;rw[WS,AO]at I;obtain⟨l,_,y⟩:=I;exact AOv y
   .intro c l y;rw[WS,AO]at y;obtain⟨l0,G,rfl⟩:=y;have B:S.at (.tmp t c)=some l0:=by simp[St.at,E,G]
    obtain⟨v,L,H⟩:=h.C0 _ _ B;exact⟨v,L,by simpa using AOu rfl B L H⟩
  .cases j
 |.const v,.k x,q=>
  simp only[St.rd,AD]at j;subst j;refine⟨[v],rfl,rfl,by cases x<;>simp[sR],?_⟩;intro c l y;cases c with
  |zero=>
   simp only[AN,AD]at y;subst y;refine⟨v,rfl,?_⟩;simp only[CH,DA]at q;rcases q with q|q
   .have J:=Wc q;cases x<;>first|exact J|exact J.elim
   .unfold ALL at q;split at q
    .exact View.nl
    .cases q
  |succ c=>simp at y
 |.func f,.fn Q,q=>
  simp only[St.rd,AD]at j;subst j;refine⟨[.func (.func f) #[] #[]],rfl,rfl,by simp,?_⟩;intro c l y;cases c with
  |zero=>
   simp only[AN,AD]at y;subst y;exact⟨_,rfl,f,#[],rfl,Z (f,Q) (by simp[CI]),rfl,by simp⟩
  |succ c=>simp at y
theorem Rd.cells{e}(h:Rd F S g w e v):∃vs,v=mkV e.sh vs/\Cells F S g w e.cs vs λ_ _=>False:=by
 obtain⟨vs,c,j,q,y⟩:=h;exact⟨vs,c,Cells.free j y q⟩
theorem Cells.one(c:∀x,l≠.ow x)(h:B1 F S g w (λ_=>False) l v):Cells F S g w [l] [v] λ_ _=>False:=by
 grind[Cells.free,List.getElem?_cons_zero,Option.some.injEq,List.mem_singleton]
theorem LS(h:Inv F S g a w){x}(c:d<F.N)(e:S.EY d ⟨.one,[.t x]⟩=some S')(j:Sc x v):∃g',Inv F S' g' (a.put (some d) v) w:=
 h.EY (vs:=[v]) e c (Cells.one (by simp) j)
theorem Qy(h:Inv F S g a w)(c:d<F.N)(j:S.EY d ⟨.one,[l]⟩=some S')(e:∀x,l≠.ow x)(q:B1 F S g w (λ_=>False) l v):∃g',Inv F S' g' (a.put (some d) v) w:=
 h.EY (vs:=[v]) j c (Cells.one e q)
theorem Q1(h:Inv F S g a w){o}{x}{t}(c:S.sc x=some t)(I:CH o x=true)(H:∀p∈CI o x,Mt F.A F.P p.1 p.2):Sc t (a.eval o):=by
 unfold St.sc at c;cases j:S.rd x with
 |none=>simp[j,AHt]at c|some e=>
  obtain⟨vs,E,J,L,G⟩:=Oq h j I H;rw[j]at c;unfold AHt at c;split at c
  .rename_i O q;simp only[AD]at q c;subst q c;obtain⟨u,B,y⟩:=G 0 _ rfl;rw[E];cases vs with|nil=>simp at B|cons v vs=>simp only[AN,AD]at B;subst B;exact y
  .cases c
theorem Tq(h:Inv F S g a w){o}{x}{n}(c:S.nat x=some n)(q:CH o x=true)(j:∀p∈CI o x,Mt F.A F.P p.1 p.2):∃k,a.eval o=.int k n:=by
 unfold St.nat at c;split at c
 .rename_i k y e;cases c;exact⟨k,Q1 h e q j⟩
 .cases c
theorem Gm(h:Inv F S g a w){o}{x}(c:S.one x=some l)(H:CH o x=true)(G:∀p∈CI o x,Mt F.A F.P p.1 p.2) :
 B1 F S g w (λ_=>False) l (a.eval o)/\∀x,l≠.ow x:=by
 unfold St.one at c;split at c
 .rename_i l' e;cases c;obtain⟨vs,y,J,B,E⟩:=Oq h e H G;obtain⟨u,q,j⟩:=E 0 _ rfl;refine⟨?_,λx I=>B x (by simp[I])⟩;rw[y];cases vs with|nil=>simp at q|cons v vs=>simp only[AN,AD]at q;subst q;exact j
 .cases c
theorem ALP(h:Inv F S g a w){o:Operand}{x:Opd}(y:d<F.N)(c:ev (.mv d x) S=some S')(G:CH o x=true)(E:∀p∈CI o x,Mt F.A F.P p.1 p.2) :
 ∃g',Inv F S' g' (a.put (some d) (a.eval o)) w:=by
 simp only[ev]at c;split at c
 .rename_i e B;obtain⟨vs,j,q⟩:=(Oq h B G E).cells;rw[j];exact h.EY c y q
 .cases c
theorem Y3(h:Inv F S g a w){e:Ent}(G:Rd F S g w e v)(c:Lx S e.cs=some (S',cs)) :
 ∃vs nf,v=mkV e.sh vs/\Inv F S' g a w/\Cells F S' g w cs vs nf/\cs.length=e.cs.length:=by
 obtain⟨vs,y,q,B,E⟩:=G;unfold Lx at c;split at c
 .rename_i j;obtain⟨t1,_,nf,t2,_⟩:=AWC h B q E j c;exact⟨vs,nf,y,t1.inv,t2,t2.1.symm.trans q⟩
 .cases c
theorem AY4(h:Inv F S g a w){e:Ent}(j:Rd F S g w e v){x:Opd}(c:uI S x e.cs=some (S',cs)) :
 ∃vs nf,v=mkV e.sh vs/\Inv F S' g a w/\Cells F S' g w cs vs nf/\cs.length=e.cs.length:=by
 unfold uI at c;split at c
 .split at c
  .cases c;obtain⟨vs,q,y⟩:=j.cells
   grind
  .exact Y3 h j c
 .exact Y3 h j c
theorem AT9(h:Inv F S g a w){o:Operand}{x:Opd}(y:d<F.N)(c:ev (.as d x) S=some S')(G:CH o x=true)(E:∀p∈CI o x,Mt F.A F.P p.1 p.2) :
 ∃g',Inv F S' g' (a.put (some d) (a.eval o)) w:=by
 simp only[ev]at c;split at c
 .rename_i e B;split at c
  .rename_i S1 cs H;obtain⟨vs,nf,j,hi,q,_⟩:=Y3 h (Oq h B G E) H;rw[j];exact hi.EY (e:=⟨e.sh,cs⟩) c y q
  .cases c
 .cases c
theorem yX(h:Inv F S g a w){oc oa ob:Operand}{c x y:Opd}(Q:d<F.N)(e:ev (.pick d c x y) S=some S')(L:CH oc c=true)(I:CH oa x=true)(J:CH ob y=true)
 (H:∀p∈CI oc c,Mt F.A F.P p.1 p.2) (E:∀p∈CI oa x,Mt F.A F.P p.1 p.2) (G:∀p∈CI ob y,Mt F.A F.P p.1 p.2) :
 ∃t g',a.eval oc=.bool t/\Inv F S' g' (a.put (some d) (if t then a.eval oa else a.eval ob)) w:=by
 simp only[ev]at e;split at e
 .rename_i t ea eb Y q B;refine⟨t,?_⟩;have Z:a.eval oc=.bool t:=Q1 h Y L H;cases t with
  |true=>
   obtain⟨vs,O,j⟩:=(Oq h q I E).cells;obtain⟨g',X⟩:=h.EY (by simpa using e) Q j
   grind
  |false=>
   obtain⟨vs,O,j⟩:=(Oq h B J G).cells;obtain⟨g',X⟩:=h.EY (by simpa using e) Q j;exact⟨g',Z,by simpa[O] using X⟩
 .cases e
theorem ADs(h:Inv F S g a w){fp}{l}{v}(q:B1 F S g w fp l v)(L:l≠.t .top)(O:l≠.und):v.oneCell'=true:=by
 match l,q with
 |.t x,q=>exact Sc.one q (by cases x<;>first|rfl|exact(L rfl).elim)
 |.und,_=>exact(O rfl).elim|.ow x,q=>exact Own.one q|.al r sub,⟨x,u,y,H,I⟩=>
  obtain⟨X,B,G⟩:=h.C0 r _ y;rw[H]at B;cases B;obtain⟨_,_,E⟩:=R3 G I;exact E.one
 |.ep r i j,⟨e,xs,blk,off,len,cap,y,H,I,Q⟩=>subst Q;rfl|.vw (.own r _) e xs,⟨_,⟨S0,_,E⟩,_⟩=>exact E.one|.vw (.old k) e xs,q=>cases q with|sc h=>exact h.elim|sl=>rfl|nl=>rfl
 |.vp (.own r _) cs,⟨_,a,c,f,y,_⟩=>subst y;rfl|.vp (.old k) cs,⟨a,c,y,_⟩=>subst y;rfl|.bp id off,q=>have J:v=_:=q;subst J;rfl|.fn f caps,⟨n,cv,y,_⟩=>subst y;rfl
end
section
variable{P:Program}{w:World}
variable{fs:Array Field}{t:TypeId}{v:Value}
theorem yp{i}(hi:P.info? t=some i)(c:i.zero=some v) :
 (Instr.alloc t true (.tuple #[])).run P w=.ok (.pointer (some ⟨w.heap.size,0,none⟩)) (World.push w (.cells v.cells t (0,0))):=by
 simp[Instr.alloc,zeroValue,typeInfo,hi,c,newVar,newRow,go_sem];rfl
theorem AHl:(Instr.box t v).run P w=.ok (.pointer (some ⟨w.heap.size,0,none⟩)) (World.push w (.cells v.cells t (0,0))):=by
 simp[Instr.box,newVar,newRow,go_sem];rfl
theorem Ha{i}(hi:P.info? t=some i):(Go.sizeOf t).run P w=.ok i.size w:=by
 simp[Go.sizeOf,typeInfo,hi,go_sem]
theorem yu{b o}{d}(h:P.underlying t=some d)(q:∀fs,d≠.struct fs)(c:∀n e,d≠.array n e)(j:w.cell? ⟨b,o,none⟩=some v) :
 (Instr.loadAt t (.pointer (some ⟨b,o,none⟩))).run P w=.ok v w:=by
 simp[Instr.loadAt,Instr.sureAddr,loadVar,isAgg,run_underlying h,go_sem];cases d<;>simp_all[go_sem]
theorem Yn{b o:Nat}{i:TypeInfo}{vs:List Value}(y:P.underlying t=some (.struct fs))(hi:P.info? t=some i)(q:vs.length=i.size)
 (c:∀(j:Nat) v,vs[j]?=some v->w.cell? ⟨b,o+j,none⟩=some v) :
 (Instr.loadAt t (.pointer (some ⟨b,o,none⟩))).run P w=.ok (.agg vs.toArray) w:=by
 have h:=run_loadCells_list (P:=P) (w:=w) ⟨b,o,none⟩ vs (by
  intro j v e;have:=c j v e;unfold Addr.add;split
  .subst_vars;simpa using this
  .exact this)
 simp[Instr.loadAt,Instr.sureAddr,loadVar,isAgg,run_underlying y,Ha hi,<-q,go_sem];unfold loadCells at h;simp[h,go_sem]
theorem Yp{b o}{i}{cur}{E}{e}(hi:P.info? t=some i)(B:v.cells.size=i.size)(y:Fb w b cur E e)
(j:o+v.cells.size<=cur.size)(q:∀c∈v.cells.toList,c.oneCell'=true) :
 (Instr.storeAt t (.pointer (some ⟨b,o,none⟩)) v).run P w=.ok () (w.setRow b (cur.toList.take o++v.cells.toList++cur.toList.drop (o+v.cells.size)).toArray):=by
 have h:=Fp (P:=P) (o:=o) (vs:=v.cells.toList) y (by simpa using j) q;simp only[Bg]at h;unfold Instr.storeAt storeVar;generalize v.cells=cs at *;simp[Instr.sureAddr,Ha hi,B,h,go_sem]
theorem G3 b o n :(⟨b,o,none⟩:Addr).add n=⟨b,o+n,none⟩:=by
 grind[Addr.add]
theorem na{b o f:Nat}{x:Field}{i:TypeInfo}(e:P.underlying t=some (.struct fs))(c:fs[f]?=some x)(hi:P.info? x.type=some i)(h:0<i.size) :
 (Instr.fieldAt t (.pointer (some ⟨b,o,none⟩)) f).run P w=.ok (.pointer (some ⟨b,o+x.offset,none⟩)) w:=by
 have:i.size≠0:=by omega
 simp[Instr.fieldAt,Instr.sureAddr,fieldPlace,run_underlying e,c,Ha hi,this,G3,go_sem]
theorem nc{el:TypeId}{b o len cap:Nat}{k:IntKind}{n:Int}{i:TypeInfo}(h:P.underlying t=some (.slice el))(hi:P.info? el=some i)(c:0<=n)(e:n<len) :
 (Instr.indexAt t (.slice (some ⟨b,o,none⟩) len cap) (.int k n)).run P w=.ok (.pointer (some ⟨b,o+n.toNat*i.size,none⟩)) w:=by
 simp[Instr.indexAt,asIntOf,run_underlying h,Ha hi,c,e,G3,go_sem]
theorem yt{s:List UInt8}{k}{n:Int}(h:P.underlying t=some .string)(e:0<=n)(j:n<s.length) :
 (Instr.index t (.string ⟨s.toArray⟩) (.int k n)).run P w=.ok (.int .u8 (s.getD n.toNat 0).toNat) w:=by
 have c:n.toNat<s.length:=by omega
 have:(⟨s.toArray⟩:ByteArray)[n.toNat]?=some s[n.toNat]:=by
  grind[ByteArray.size,ByteArray.getElem_eq_getElem_data]
 simp[Instr.index,asIntOf,run_underlying h,e,List.getD,c,go_sem];rfl
end
section
variable{F:Fix}{S S':St}{g g':Gh}{a a':Act}{w w':World}
variable{fs:Array Field}{op:BinOp}{k:IntKind}{as:List T}{d n:Nat}{oi ox:Operand}{xhi xlo:Option Opd}{P:Program}{r:T}{el t:TypeId}{v:Value}
theorem AFP{vs}{e}(h:UL vs e=true):vs.length=e.length/\∀(c:Nat) x,e[c]?=some x->∃v,vs[c]?=some v/\Sc x v:=by
 induction vs generalizing e with
 |nil=>cases e<;>simp_all[UL]
 |cons v vs j=>
  cases e with
  |nil=>simp[UL]at h|cons z e=>
   grind[UL,List.getElem?_cons_zero,Option.some.injEq,Wc]
theorem zeroCells{e}(h:bG F.P t e=true):∃i v,F.P.info? t=some i/\i.zero=some v/\i.size=e.length/\v.cells.toList.length=e.length /\
 Cells F S g w (e.map .t) v.cells.toList λ_ _=>False:=by
 unfold bG at h;split at h
 .rename_i i hi;simp only[AF,beq_iff_eq]at h;obtain⟨j,B⟩:=h;split at j
  .rename_i v I;obtain⟨q,E⟩:=AFP j;refine⟨i,v,hi,I,B,q,Cells.free (by simpa using q) ?_ (by simp)⟩;intro c l y;rw[A0,AO]at y;obtain⟨x,J,rfl⟩:=y;obtain⟨u,H,G⟩:=E c x J;exact⟨u,H,G⟩
  .cases j
 .cases h
theorem AXU(q:AS->Bool)(e:∀x,q (.t x)=false)(c:List T):Eo q (c.map .t)=c.map .t:=by
 induction c with
 |nil=>rfl|cons z c h=>simp[Eo,e,h]
theorem m9(h:Inv F S g a w){j:List T}(B:d<F.N)(c:ev (.alloc d j) S=some S')(H:bG F.P t j=true) :
 ∃v w' g',(Instr.alloc t true (.tuple #[])).run F.P w=.ok v w'/\Inv F S' g' (a.put (some d) v) w'/\∀b,b<w.heap.size->w'.heap[b]?=w.heap[b]?:=by
 simp only[ev]at c;split at c
 .cases c
 .rename_i E;cases c;obtain⟨i,v,hi,G,_,_,y⟩:=zeroCells (F:=F) (S:=S) (g:=g) (w:=w) H;obtain⟨g',e⟩:=h.ATz B E y t;rw[AXU _ (λ_=>rfl)]at e;refine⟨_,_,g',yp hi G,?_,λb q=>FG q⟩;rw[Ge]at e;exact e
theorem ni(h:Inv F S g a w){e:Ent}{cs}{vs}{nf}(J:Cells F S g w cs vs nf)(Q:cs.length=e.cs.length)(q:Gn e.sh e.cs.length=true)(H:IU cs=false) :
 (mkV e.sh vs).cells.toList=vs/\∀v∈vs,v.oneCell'=true:=by
 have j:∀v∈vs,v.oneCell'=true:=by
  intro v X;obtain⟨c,B⟩:=B2 X;have E:c<cs.length:=by
   have:=(AP.1 B).1;rw[J.1]at this;exact this
  obtain⟨v',I,L⟩:=J.2.1 c cs[c] (by simp[E]);rw[B]at I;cases I;have G:∀(ls:List AS),IU ls=false->∀l∈ls,l≠.t .top/\l≠.und:=by
   intro ls
   induction ls with
   |nil=>simp|cons x ls Y=>
    intro H l O;cases Ae.1 O with
    |inl e=>subst e;constructor<;>(rintro rfl;simp[IU]at H)
    |inr e=>exact Y (by unfold IU at H;split at H<;>simp_all) l e
  obtain⟨Z,k2⟩:=G cs H _ (List.getElem_mem E);exact ADs h L Z k2
 refine⟨?_,j⟩;cases y:e.sh with
 |one=>
  rw[y]at q;simp only[Gn,beq_iff_eq]at q;have:vs.length=1:=by rw[J.1,Q,q]
  match vs,this,j with
  | [v],_,j=>
   have:=j v (by simp);simp only[mkV,Ed];cases v<;>first|rfl|(simp[Value.oneCell']at this)
 |agg=>simp[mkV,Value.cells]|tup ns=>rw[y]at q;simp[Gn]at q|ptr k=>rw[y]at q;simp[Gn]at q|vw k=>rw[y]at q;simp[Gn]at q
theorem AHO(h:Inv F S g a w){t:TypeId}{o:Operand}{x:Opd}(I:d<F.N)(c:ev (.box d x) S=some S')(Q:CH o x=true)(O:∀p∈CI o x,Mt F.A F.P p.1 p.2) :
 ∃v w' g',(Instr.box t (a.eval o)).run F.P w=.ok v w'/\Inv F S' g' (a.put (some d) v) w'/\∀b,b<w.heap.size->w'.heap[b]?=w.heap[b]?:=by
 simp only[ev]at c;split at c
 .rename_i e J;split at c
  .rename_i S1 cs Y;split at c
   .cases c
   .rename_i hcond;simp only[not_or,DG,Bool.not_eq_false]at hcond;obtain⟨X,q,B⟩:=hcond;cases c;obtain⟨vs,nf,G,hi,E,j⟩:=AY4 h (Oq h J Q O) Y;obtain⟨g',L⟩:=hi.ATz I X E t;refine⟨_,_,g',AHl,?_,λb H=>FG H⟩;have y:=(ni hi E j B q).1;have:(a.eval o).cells=vs.toArray:=by rw[G,<-Ge (xs:=(mkV e.sh vs).cells),y]
    rw[this];exact L
  .cases c
 .cases c
def AL2(b c:Nat):AS->AS|.ow _=>.al (.cell b c) none|l=>l
theorem ZE b o  l  ls :RI b o (l::ls)=AL2 b o l::RI b (o+1) ls:=by cases l<;>rfl
theorem zl b  cs  o c :(RI b o cs)[c]?=(cs[c]?).map (AL2 b (o+c)):=by
 induction cs generalizing o c with
 |nil=>simp[RI]|cons l ls e=>
  grind[ZE,List.getElem?_cons_succ]
theorem AWZ{b c}{l}{x}:AL2 b c l≠.ow x:=by cases l<;>simp[AL2]
theorem WC{m c}(h:(List.range n)[m]?=some c):m<n/\m=c:=by
 grind[List.getElem?_eq_some_iff]
theorem zm b  cs  o :(RI b o cs).length=cs.length:=by
 induction cs generalizing o with
 |nil=>rfl|cons l ls c=>rw[ZE];simp[c]
theorem mX r  i  xs  j m :(KD r i j xs)[m]?=(xs[m]?).map (LN (.own r (some (i,j+m)))):=by
 induction xs generalizing j m with
 |nil=>simp[KD]|cons x xs c=>
  grind[KD,List.getElem?_cons_succ]
theorem mY r  i  xs  j :(KD r i j xs).length=xs.length:=by
 induction xs generalizing j with
 |nil=>rfl|cons x xs c=>simp[KD,c]
theorem PW(h:Inv F S g a w){p:AS}{v:Value}(hp:B1 F S g w (λ_=>False) p v){n:Nat}{ls:List AS}(H:S.load n p=some ls) :
 ∃b o vs,v=.pointer (some ⟨b,o,none⟩)/\vs.length=n/\ls.length=n/\(∀(j:Nat) u,vs[j]?=some u->w.cell? ⟨b,o+j,none⟩=some u)/\Cells F S g w ls vs λ_ _=>False:=by
 match p,hp with
 |.bp id off,hp=>
  have hp':v=.pointer (some ⟨g.β id,off,none⟩):=hp;subst hp';simp only[St.load]at H;split at H
  .rename_i ls0 Q;split at H
   .rename_i hle;cases H;obtain⟨⟨E,hE⟩,hlen⟩:=h.bxs id ls0 Q;have hgv:∀j u,(((g.bv id).drop off).take n)[j]?=some u->j<n/\(g.bv id)[off+j]?=some u:=by
     intro j u J;rw[CB]at J;split at J
     .rename_i hj;exact⟨hj,by rwa[Bz]at J⟩
     .cases J
    refine⟨g.β id,off,((g.bv id).drop off).take n,rfl,by simp;omega,by simp[zm];omega,?_,Cells.free (by simp[zm];omega) ?_ ?_⟩
    .intro j u J;obtain⟨_,J⟩:=hgv j u J;simp only[World.cell?,hE];simpa using J
    .intro c l hlc;rw[zl,AO]at hlc;obtain⟨l0,I,rfl⟩:=hlc;rw[CB]at I;split at I
     .rename_i hc;rw[Bz]at I;have O:S.at (.cell id (off+c))=some l0:=by simp[St.at,Q,I]
      obtain⟨u,J,hok⟩:=h.C0 _ _ O;refine⟨u,by rw[CB,AW hc,Bz];exact J,?_⟩;by_cases Z:∃x,l0=.ow x
      .obtain⟨x,rfl⟩:=Z;exact⟨x,u,O,J,rfl⟩
      .have:AL2 id (off+c) l0=l0:=by cases l0<;>first|rfl|exact(Z ⟨_,rfl⟩).elim
       rw[this];exact B1.any (λx q=>Z ⟨x,q⟩) hok
     .cases I
    .intro x q;obtain⟨c,hc⟩:=B2 q;rw[zl,AO]at hc;obtain⟨l0,_,I⟩:=hc;exact AWZ I
   .cases H
  .cases H
 |.ep r i j,⟨e,xs,blk,off,len,cap,h1,h2,h3,h4⟩=>
  subst h4;simp only[St.load,h1]at H;split at H
  .rename_i row X;split at H
   .rename_i hle;cases H;obtain⟨u,J,hown⟩:=h.C0 r _ h1;rw[h2]at J;cases J;cases hown with
    |sc Y _ _=>exact Y.elim|sl c f k1 k2 k3 k4 k5 k6 k7 k8 k9 k10=>
     rename_i arr E;have O:∀(m:Nat) x,((row.drop j).take n)[m]?=some x->m<n/\at2 xs i (j+m)=some x:=by
      intro m x q;rw[CB]at q;split at q
      .rename_i B;rw[Bz]at q;exact⟨B,by simp[at2,X,q]⟩
      .cases q
     refine⟨blk,off+i*e+j,(List.range n).map λm=>c i (j+m),rfl,by simp,by simp[mY];omega,?_,Cells.free (by simp[mY];omega) ?_ ?_⟩
     .intro m u B;rw[A0,AO]at B;obtain⟨m',L,rfl⟩:=B;obtain⟨G,rfl⟩:=WC L;have q:∃x,at2 xs i (j+m)=some x:=by
       have:j+m<row.length:=by omega
       exact⟨row[j+m],by simp[at2,X,this]⟩
      obtain⟨x,q⟩:=q;have:=k6 i (j+m) x q;rw[k4.cell,<-this];congr 1;omega
     .intro m l B;rw[mX,AO]at B;obtain⟨x,q,rfl⟩:=B;obtain⟨G,q⟩:=O m x q;refine⟨c i (j+m),by simp[G],?_⟩;have hO:=k7 i (j+m) x q;cases x with
      |sl e' ys=>
       refine⟨⟨_,h1⟩,⟨f i (j+m),λb hb=>(k10 b).2 (.inr ⟨i,j+m,_,q,hb⟩),hO⟩,e,xs,blk,off,len,cap,h1,h2,q,(k10 blk).2 (.inl rfl),?_⟩;rw[k4.cell];exact k6 i (j+m) _ q
      |mp ks=>trivial|_=>cases hO with|sc Y _ _=>exact Y
     .intro x q;obtain⟨m,B⟩:=B2 q;rw[mX,AO]at B;obtain⟨y,_,hy⟩:=B;cases y<;>simp[LN]at hy
   .cases H
  .cases H
 |.vp s cs,hp=>
  simp only[St.load]at H;split at H
  .rename_i hle;cases H;have hno:∀x,AS.ow x∉(cs.take n).map (LN s.up):=by
    intro x q;simp only[Ej]at q;obtain⟨y,_,hy⟩:=q;cases y<;>simp[LN]at hy
   cases s with
   |own r=>
    obtain⟨hal,ad,c,f,q1,q2,q3⟩:=hp;subst q1;obtain⟨b,o,sp⟩:=ad;simp only at q2;subst q2;refine⟨b,o,(List.range n).map c,rfl,by simp,by simp;omega,?_,Cells.free (by simp;omega) ?_ hno⟩
    .intro m u B;rw[A0,AO]at B;obtain⟨m',L,rfl⟩:=B;obtain⟨G,rfl⟩:=WC L;exact(q3 m cs[m] (by simp[show m<cs.length from by omega])).2.1
    .intro m l B;rw[A0,AO]at B;obtain⟨x,q,rfl⟩:=B;rw[CB]at q;split at q
     .rename_i G;obtain⟨p1,p2,p3,p4⟩:=q3 m x q;refine⟨c m,by simp[G],?_⟩;cases x with
      |sl e' ys=>exact⟨hal,⟨f m,p3,p4⟩,trivial⟩|mp ks=>trivial|_=>cases p4 with|sc Y _ _=>exact Y
     .cases q
   |old k=>
    obtain⟨ad,c,q1,q2,q3⟩:=hp;subst q1;obtain⟨b,o,sp⟩:=ad;simp only at q2;subst q2;refine⟨b,o,(List.range n).map c,rfl,by simp,by simp;omega,?_,Cells.free (by simp;omega) ?_ hno⟩
    .intro m u B;rw[A0,AO]at B;obtain⟨m',L,rfl⟩:=B;obtain⟨G,rfl⟩:=WC L;exact(q3 m cs[m] (by simp[show m<cs.length from by omega])).2.1
    .intro m l B;rw[A0,AO]at B;obtain⟨x,q,rfl⟩:=B;rw[CB]at q;split at q
     .rename_i G;obtain⟨p1,p2,p3⟩:=q3 m x q;refine⟨c m,by simp[G],?_⟩;cases x with
      |sl e' ys=>exact p3|mp ks=>trivial|_=>cases p3 with|sc Y=>exact Y
     .cases q
  .cases H
theorem AUD(h:Inv F S g a w){n:Option Nat}{o:Operand}{x:Opd}(O:d<F.N)(c:ev (.ld d n x) S=some S')(y:JE F.P t n=true)(X:CH o x=true)(Q:∀p∈CI o x,Mt F.A F.P p.1 p.2) :
 ∃v g',(∀w1,AOo (a.eval o) w w1->(Instr.loadAt t (a.eval o)).run F.P w1=.ok v w1)/\Inv F S' g' (a.put (some d) v) w:=by
 simp only[ev]at c;split at c
 .rename_i p Y;split at c
  .rename_i ls H;obtain⟨b,o',vs,Z,J,h2,B,L⟩:=PW h (Gm h Y X Q).1 H;rw[Z];have B:∀w1,AOo (.pointer (some ⟨b,o',none⟩)) w w1->∀(j:Nat) u,vs[j]?=some u->w1.cell? ⟨b,o'+j,none⟩=some u:=λw1 q j u E=>(JW (q b rfl)).trans (B j u E)
   unfold JE at y;split at y
   .rename_i dsc i E hi;cases n with
    |some k=>
     simp only[AF,beq_iff_eq]at y;obtain⟨I,hk⟩:=y;obtain⟨fs,rfl⟩:∃fs,dsc=.struct fs:=by cases dsc<;>simp[Qf]at I;exact⟨_,rfl⟩
     obtain⟨g',G⟩:=h.EY (e:=⟨.agg,ls⟩) (by simpa[shN] using c) O L;exact⟨_,g',λw1 q=>Yn E hi (by simp[Dn]at J;omega) (B w1 q),by simpa[mkV] using G⟩
    |none=>
     simp only[AF,beq_iff_eq,A8]at y
     match vs,J with
     | [u],_=>
      obtain⟨g',G⟩:=h.EY (e:=⟨.one,ls⟩) (by simpa[shN] using c) O L;refine⟨u,g',λw1 q=>yu E ?_ ?_ (by simpa using B w1 q 0 u rfl),by simpa[mkV] using G⟩
      .rintro fs rfl;simp[Px]at y
      .rintro n e rfl;simp[Px]at y
   .cases y
  .cases c
 .cases c
theorem dU{xs}{i:Nat}{row':List T}(hi:i<xs.length)(c e:Nat):at2 (xs.set i row') c e=if c=i then row'[e]? else at2 xs c e:=by
 grind[at2]
theorem zL{e i j:Nat}{xs:List (List T)}{row:List T}{ts:List T}{vs:List Value}{nf:Nat->Blk}{blk off len cap:Nat}{arr:Array Value}{E:TypeId}{fp:Blk}
 {c:Nat->Nat->Value} {f:Nat->Nat->Blk} (k1:len=xs.length) (k2:len<=cap) (k3:∀row∈xs,row.length=e) (k4:Fb w blk arr E e) (k5:off+cap*e<=arr.size)
 (k6:∀i j x,at2 xs i j=some x->arr[off+i*e+j]?=some (c i j)) (k7:∀i j x,at2 xs i j=some x->Own w x (c i j) (f i j)) (k8:∀i j x,at2 xs i j=some x->¬f i j blk)
 (k9:∀i j x y q x',at2 xs i j=some x->at2 xs y q=some x'->(i=y->j≠q)->∀b,f i j b->¬f y q b) (k10:∀b,fp b↔b=blk\/∃i j x,at2 xs i j=some x/\f i j b)
 (J:xs[i]?=some row) (hle:j+ts.length<=row.length) (hlen:vs.length=ts.length) (hown:∀(m:Nat) x,ts[m]?=some x->∃v,vs[m]?=some v/\Own w x v (nf m))
 (O:∀m b,m<ts.length->nf m b->¬fp b) (hnn:∀m m' b,m<ts.length->m'<ts.length->m≠m'->nf m b->¬nf m' b) :
 ∃fp':Blk,Own (w.setRow blk (arr.toList.take (off+i*e+j)++vs++arr.toList.drop (off+i*e+j+vs.length)).toArray) (.sl e (xs.set i (EC row j ts))) (.slice (some ⟨blk,off,none⟩) len cap) fp' /\
  (∀b,fp' b->fp b\/∃m,m<ts.length/\nf m b):=by
 have hi:i<xs.length:=(AP.1 J).1;have hrl:row.length=e:=k3 row (Au J);have hmul:(i+1)*e<=cap*e:=An _ (by omega);rw[Bb,Dk]at hmul;have Y:off+i*e+j+vs.length<=arr.size:=by omega
 have X:fp blk:=(k10 blk).2 (.inl rfl);have hset:∀m,(EC row j ts)[m]?=if j<=m/\m<j+ts.length then ts[m-j]? else row[m]?:=λm=>GO row j ts hle m
 have I:∀y q x,at2 (xs.set i (EC row j ts)) y q=some x->(y=i/\j<=q/\q<j+ts.length/\ts[q-j]?=some x)\/(¬(y=i/\j<=q/\q<j+ts.length)/\at2 xs y q=some x):=by
  intro y q x H;rw[dU hi]at H;by_cases B:y=i
  .subst B;rw[AW rfl,hset]at H;split at H
   .rename_i G;exact .inl ⟨rfl,G.1,G.2,H⟩
   .rename_i G;exact .inr ⟨λh=>G h.2,by simp[at2,J,H]⟩
  .rw[AT B]at H;exact .inr ⟨λh=>B h.1,H⟩
 have harr:∀k,(arr.toList.take (off+i*e+j)++vs++arr.toList.drop (off+i*e+j+vs.length)).toArray[k]?=if off+i*e+j<=k/\k<off+i*e+j+vs.length then vs[k-(off+i*e+j)]? else arr[k]?:=by
  intro k;have:=GO arr.toList (off+i*e+j) vs (by simpa using Y) k;rw[K1 _ _ _ (by simpa using Y)]at this;simpa using this
 let vv:Nat->Value:=λm=>vs.getD m undef
 have hvv:∀(m:Nat) x,ts[m]?=some x->vs[m]?=some (vv m)/\Own w x (vv m) (nf m):=by
  intro m x H;obtain⟨v,hv,ho⟩:=hown m x H;have:vv m=v:=by simp[vv,List.getD,hv]
  rw[this];exact⟨hv,ho⟩
 let cc:Nat->Nat->Value:=λy q=>if y=i/\j<=q/\q<j+ts.length then vv (q-j) else c y q
 let ff:Nat->Nat->Blk:=λy q=>if y=i/\j<=q/\q<j+ts.length then nf (q-j) else f y q
 have cin:∀{y q},(y=i/\j<=q/\q<j+ts.length)->cc y q=vv (q-j)/\ff y q=nf (q-j):=by
  intro y q hh;exact⟨by simp only[cc,AW hh],by simp only[ff,AW hh]⟩
 have cout:∀{y q},¬(y=i/\j<=q/\q<j+ts.length)->cc y q=c y q/\ff y q=f y q:=by
  intro y q hh;exact⟨by simp only[cc,AT hh],by simp only[ff,AT hh]⟩
 have hframe:∀{x:T} {v:Value} {S0:Blk},Own w x v S0->(¬S0 blk)->Own (w.setRow blk (arr.toList.take (off+i*e+j)++vs++arr.toList.drop (off+i*e+j+vs.length)).toArray) x v S0:=by
  intro x v S0 ho hnb;exact ho.frame λb L=>setRow_other (by rintro rfl;exact hnb L)
 refine⟨λb=>b=blk\/∃y q x,at2 (xs.set i (EC row j ts)) y q=some x/\ff y q b,.sl cc ff (by simpa using k1) k2 ?_ (k4.set (by simp;omega)) ?_ ?_ ?_ ?_ ?_ (λb=>Iff.rfl),?_⟩
 .intro row' hr';rcases Df hr' with hr'|rfl
  .exact k3 row' hr'
  .rw[Oz];exact hrl
 .simp;omega
 .intro y q x H;rw[harr];rcases I y q x H with ⟨B,G,Q,h4⟩|⟨B,G⟩
  .rw[(cin ⟨B,G,Q⟩).1];subst B;rw[AW (by omega),show off+y*e+q-(off+y*e+j)=q-j from by omega];exact(hvv _ _ h4).1
  .rw[(cout B).1];have hj':q<e:=PE G k3;rw[AT]
   .exact k6 y q x G
   .intro hh;apply B;have:y=i:=by
     rcases Nat.lt_trichotomy y i with hlt|heq|hgt
     .have:(y+1)*e<=i*e:=An _ hlt;rw[Bb,Dk]at this;omega
     .exact heq
     .have:(i+1)*e<=y*e:=An _ hgt;rw[Bb,Dk]at this;omega
    subst this;exact⟨rfl,by omega,by omega⟩
 .intro y q x H;rcases I y q x H with ⟨B,G,Q,h4⟩|⟨B,G⟩
  .rw[(cin ⟨B,G,Q⟩).1,(cin ⟨B,G,Q⟩).2];exact hframe (hvv _ _ h4).2 λL=>O _ _ (by omega) L X
  .rw[(cout B).1,(cout B).2];exact hframe (k7 y q x G) (k8 y q x G)
 .intro y q x H;rcases I y q x H with ⟨B,G,Q,h4⟩|⟨B,G⟩
  .rw[(cin ⟨B,G,Q⟩).2];exact λL=>O _ _ (by omega) L X
  .rw[(cout B).2];exact k8 y q x G
 .intro i1 j1 x1 i2 j2 x2 hx1 hx2 hne b;rcases I i1 j1 x1 hx1 with ⟨B,G,Q,h4⟩|⟨B,G⟩
  .rw[(cin ⟨B,G,Q⟩).2];rcases I i2 j2 x2 hx2 with ⟨p1,p2,p3,p4⟩|⟨p1,p2⟩
   .rw[(cin ⟨p1,p2,p3⟩).2];have:=hne (B.trans p1.symm);exact hnn _ _ b (by omega) (by omega) (by omega)
   .rw[(cout p1).2];exact λL Z=>O _ b (by omega) L ((k10 b).2 (.inr ⟨i2,j2,x2,p2,Z⟩))
  .rw[(cout B).2];rcases I i2 j2 x2 hx2 with ⟨p1,p2,p3,p4⟩|⟨p1,p2⟩
   .rw[(cin ⟨p1,p2,p3⟩).2];exact λL Z=>O _ b (by omega) Z ((k10 b).2 (.inr ⟨i1,j1,x1,G,L⟩))
   .rw[(cout p1).2];exact k9 i1 j1 x1 i2 j2 x2 G p2 hne b
 grind
theorem aZ{sh}{vs}{n}(c:Gn sh n=true)(h:vs.length=n)(e:∀v∈vs,v.oneCell'=true):(mkV sh vs).cells.toList=vs:=by
 cases sh with
 |one=>
  simp only[Gn,beq_iff_eq]at c
  match vs,h.trans c,e with
  | [v],_,e=>
   have:=e v (by simp);simp only[mkV,Ed];cases v<;>first|rfl|(simp[Value.oneCell']at this)
 |agg=>simp[mkV,Value.cells]|tup ns=>simp[Gn]at c|ptr k=>simp[Gn]at c|vw k=>simp[Gn]at c
def AaF(S:St)(g:Gh)(x:Opd)(b:Nat):Prop:=∃l,S.one x=some l/\((∃id off,l=.bp id off/\(get S.bx id).isSome/\b=g.β id)\/∃r,l.B8=some r/\CP S r/\g.fp r b)
theorem AWB{S:St}:∀{ls:List AS} {S:St} {S':St} {cs:List AS} (id:Nat),KU S ls=some (S',cs)->(get S'.bx id).isSome->(get S.bx id).isSome:=by
 intro ls
 induction ls with
 |nil=>intro S S' cs id h c;simp only[KU,AD,A6]at h;rw[h.1];exact c
 |cons l ls e=>
  intro S S' cs id h c;unfold KU at h
  grind[St.out,St.kill,DY,Option.isSome_map,Dv]
theorem AUE(h:Inv F S g a w){ov:Operand}{x v:Opd}{i:TypeInfo}(q:ev (.st n x v) S=some S')(hi:F.P.info? t=some i)(hn:i.size=n % 1048576)(hox:CH ox x=true)(hov:CH ov v=true)
 (hmx:∀p∈CI ox x,Mt F.A F.P p.1 p.2) (hmv:∀p∈CI ov v,Mt F.A F.P p.1 p.2) :
 ∃w' g',(Instr.storeAt t (a.eval ox) (a.eval ov)).run F.P w=.ok () w'/\Inv F S' g' a w'/\∀b,¬AaF S g x b->w'.heap[b]?=w.heap[b]?:=by
 simp only[ev]at q;split at q
 .rename_i p e hp he;split at q
  .rename_i hcond;obtain⟨I,hsh⟩:=hcond;have hrd:=Oq h he hov hmv;obtain⟨hpo,hpn⟩:=Gm h hp hox hmx;unfold St.SJ at q;split at q
   .rename_i id o;split at q
    .rename_i S1 cs' B;split at q
     .cases q
     .rename_i htop;simp only[DG]at htop;have hcs:∃vs nf,a.eval ov=mkV e.sh vs/\Inv F S1 g a w/\Cells F S1 g w cs' vs nf/\cs'.length=e.cs.length:=by
       unfold Y2 at B;split at B
       .exact Y3 h hrd B
       .cases B;obtain⟨vs,h1,hc⟩:=hrd.cells;exact⟨vs,_,h1,h,hc,rfl⟩
      obtain⟨vs,nf,h1,y,hc,hl⟩:=hcs;have hpo':a.eval ox=.pointer (some ⟨g.β id,o,none⟩):=hpo;dsimp only at q;split at q
      .rename_i ls hls;split at q
       .rename_i hle;cases q;obtain⟨g',hg⟩:=y.AV5 hc hls hle;obtain⟨H,J⟩:=ni y hc hl (by rw[I];exact hsh) htop;have hls0:∃O,get S1.bx id=some O/\ls.length=O.length:=by
         simp only[St.kill,DY,AO]at hls;obtain⟨O,h0,rfl⟩:=hls;exact⟨O,h0,Fa _ _⟩
        obtain⟨O,h0,hl0⟩:=hls0;obtain⟨⟨E,hE⟩,hbl⟩:=y.bxs id O h0;have L:(a.eval ov).cells.size=n % 1048576:=by rw[h1,<-Bg,H,hc.1,hl,I]
        have Y:=Yp (e:=0) (P:=F.P) (t:=t) (b:=g.β id) (o:=o) (v:=a.eval ov) hi (by rw[L,hn]) (.of hE) (by
         rw[L];simp only[A1,hbl];omega) (by rw[h1,H];exact J)
        have hsome:(get S.bx id).isSome:=by
         unfold Y2 at B;split at B
         .unfold Lx at B;split at B
          .exact AWB (S:=S) id B (by rw[h0];rfl)
          .cases B
         .cases B;rw[h0];rfl
        refine⟨_,g',by rw[hpo'];exact Y,?_,λb G=>setRow_other (by rintro rfl;exact G ⟨_,hp,.inl ⟨id,o,rfl,hsome,rfl⟩⟩)⟩;have:(mkV e.sh vs).cells.size=vs.length:=by rw[<-Bg,H]
        simp only[h1,H,this];exact hg
       .cases q
      .cases q
    .cases q
   .rename_i r i' j;split at q
    .rename_i S1 ts B;split at q
     .rename_i e1 xs hx;split at q
      .rename_i row X;split at q
       .rename_i hle;cases q;obtain⟨vs,h1,h2,h3,h4⟩:=hrd;obtain⟨g1,htaken,nf,hT,hnf⟩:=YY h h3 h2 (by
         intro c l hl;obtain⟨u,hu,hok⟩:=h4 c l hl;exact⟨u,hu,λ_ _ _=>hok,λ_=>hok⟩) B
        obtain⟨t1,t2,t3,t4,t5,t6⟩:=hT;have y:=htaken.inv;obtain⟨e0,xs0,blk,off,len,cap,q1,q2,q3,q4⟩:=hpo;have hfpb:g.fp r blk:=by
         obtain⟨u,hu,Q⟩:=h.C0 r _ q1;rw[q2]at hu;cases hu;cases Q with
         |sc hh _ _=>exact hh.elim|sl c f k1 k2 k3 k4 k5 k6 k7 k8 k9 k10=>exact(k10 blk).2 (.inl rfl)
        have halS:CP S r:=⟨_,q1⟩;obtain⟨x0,hx0,hlike⟩:=htaken.ADt r _ hx;rw[q1]at hx0;cases hx0;obtain rfl:e0=e1:=by
         rcases hlike with hh|⟨e2,l1,l2,hh1,hh2,_⟩
         .cases hh;rfl
         .cases hh1;cases hh2;rfl
        obtain⟨u,hu,Q⟩:=y.C0 r _ hx;have q2':g1.rv r=some (.slice (some ⟨blk,off,none⟩) len cap):=(htaken.rv r).trans q2;rw[q2']at hu;cases hu;have J:∀v∈vs,v.oneCell'=true:=by
         intro v hv;obtain⟨c,hc⟩:=B2 hv;have hlt:c<ts.length:=by rw[<-t1];exact(AP.1 hc).1
         obtain⟨v',hv',ho⟩:=t2 c ts[c] (by simp[hlt]);rw[hc]at hv';cases hv';exact ho.one
        have H:=aZ hsh (h2.trans I) J;have L:(mkV e.sh vs).cells.size=vs.length:=by rw[<-Bg,H]
        cases Q with
        |sc hh _ _=>exact hh.elim|sl c f k1 k2 k3 k4 k5 k6 k7 k8 k9 k10=>
         rename_i arr E;have hal:CP S1 r:=⟨_,hx⟩;obtain⟨fp',hO,Z⟩:=zL (w:=w) (fp:=g1.fp r) k1 k2 k3 k4 k5 k6 k7 k8 k9 k10 X hle t1 t2 (λm b hm G=>t4 m r b hm hal G) t6;have hrl:row.length=e0:=k3 row (Au X);have hi':i'<xs.length:=(AP.1 X).1;have hmul:(i'+1)*e0<=cap*e0:=An _ (by omega);rw[Bb,Dk]at hmul;have Y:=Yp (P:=F.P) (t:=t) (b:=blk) (o:=off+i'*e0+j) (v:=a.eval ov) hi (by rw[h1,L,h2,I,hn]) k4 (by rw[h1,L];omega) (by rw[h1,H];exact J);have hblk:g1.fp r blk:=(k10 blk).2 (.inl rfl);obtain⟨g',hg⟩:=y.AVd (ys:=xs.set i' (EC row j ts)) (fp':=fp') hx q2' (by simp) (w':=w.setRow blk (arr.toList.take (off+i'*e0+j)++vs++arr.toList.drop (off+i'*e0+j+vs.length)).toArray)
          Still.setRow (λb _ G=>setRow_other (by rintro rfl;exact G hblk)) hO
          (λb G=>by
           rcases Z b G with G|⟨m,hm,G⟩
           .exact y.HM r hal b G
           .exact t3 m b hm G)
          (λr' hr' hne b G=>by
           rcases Z b G with G|⟨m,hm,G⟩
           .exact y.dis r r' hal hr' (Ne.symm hne) b G
           .exact t4 m r' b hm hr' G)
          (λid hid G=>by
           rcases Z _ G with G|⟨m,hm,G⟩
           .exact y.Fh r id hal hid G
           .exact t5 m id hm hid G)
         refine⟨_,g',by rw[q4];exact Y,?_,λb G=>setRow_other (by rintro rfl;exact G ⟨_,hp,.inr ⟨r,rfl,halS,hfpb⟩⟩)⟩;simp only[h1,H,L];exact hg
       .cases q
      .cases q
     .cases q
    .cases q
   .cases q
  .cases q
 .cases q
theorem AMz{p q:AS}{v:Value}{off:Nat}(I:B1 F S g w (λ_=>False) p v)(h:NM off p=some q) :
 ∃b o,v=.pointer (some ⟨b,o,none⟩)/\B1 F S g w (λ_=>False) q (.pointer (some ⟨b,o+off,none⟩))/\∀x,q≠.ow x:=by
 match p,I with
 |.bp id o,I=>
  have J:v=_:=I;subst J;simp only[NM,AD]at h;subst h;exact⟨_,_,rfl,rfl,by simp⟩
 |.ep r i j,⟨e,xs,blk,o,len,cap,B,y,E,L⟩=>
  subst L;simp only[NM,AD]at h;subst h;exact⟨_,_,rfl,⟨e,xs,blk,o,len,cap,B,y,E,by rw[CV]⟩,by simp⟩
 |.vp (.own r _) cs,⟨H,⟨b,o,sp⟩,c,f,B,y,E⟩=>
  subst B;simp only at y;subst y;simp only[NM,AD]at h;subst h;refine⟨_,_,rfl,⟨H,⟨b,o+off,none⟩,λj=>c (off+j),λj=>f (off+j),rfl,rfl,λj x G=>?_⟩,by simp⟩;rw[Bz]at G;have:=E (off+j) x G;simp only at this ⊢;rw[CV];exact this
 |.vp (.old k) cs,⟨⟨b,o,sp⟩,c,B,y,E⟩=>
  subst B;simp only at y;subst y;simp only[NM,AD]at h;subst h;refine⟨_,_,rfl,⟨⟨b,o+off,none⟩,λj=>c (off+j),rfl,rfl,λj x G=>?_⟩,by simp⟩;rw[Bz]at G;have:=E (off+j) x G;simp only at this ⊢;rw[CV];exact this
theorem AUA(h:Inv F S g a w){off f:Nat}{o:Operand}{x:Opd}(E:d<F.N)(c:ev (.fa d off x) S=some S')(j:Xx F.P t f off=true)(L:CH o x=true)(I:∀p∈CI o x,Mt F.A F.P p.1 p.2) :
 ∃v g',(∀w1:World,(Instr.fieldAt t (a.eval o) f).run F.P w1=.ok v w1)/\Inv F S' g' (a.put (some d) v) w:=by
 simp only[ev]at c;split at c
 .rename_i p O;split at c
  .rename_i q Q;obtain⟨b,o',Y,H,J⟩:=AMz (Gm h O L I).1 Q;unfold Xx at j;split at j
   .rename_i fs X;split at j
    .rename_i fl B;simp only[AF,beq_iff_eq]at j;obtain⟨y,e⟩:=j;split at e
     .rename_i i hi;simp only[decide_eq_true_eq]at e;obtain⟨g',G⟩:=Qy h E c J H;refine⟨_,g',?_,G⟩;rw[Y,<-y];exact λ_=>na X B hi e
     .cases e
    .cases j
   .cases j
  .cases c
 .cases c
theorem AHP(h:Inv F S g a w){o:Operand}{x:Opd}(G:d<F.N)(q:ev (.chk d x) S=some S')(J:CH o x=true)(H:∀p∈CI o x,Mt F.A F.P p.1 p.2) :
 ∃ad g',a.eval o=.pointer (some ad)/\Inv F S' g' (a.put (some d) (a.eval o)) w:=by
 simp only[ev]at q;split at q
 .rename_i p L;split at q
  .rename_i c;obtain⟨y,I⟩:=Gm h L J H;obtain⟨g',O⟩:=Qy h G q I y;have:∃ad,a.eval o=.pointer (some ad):=by
    match p,y with
    |.bp id off,y=>exact⟨_,y⟩|.ep r i j,⟨e,xs,blk,off,len,cap,_,_,_,E⟩=>exact⟨_,E⟩|.vp (.own r _) cs,⟨_,ad,_,_,B,_⟩=>exact⟨_,B⟩|.vp (.old k) cs,⟨ad,_,B,_⟩=>exact⟨_,B⟩|.t _,_=>simp[St.SZ]at c|.und,_=>simp[St.SZ]at c|.ow _,_=>simp[St.SZ]at c|.al _ _,_=>simp[St.SZ]at c|.vw (.own _ _) _ _,_=>simp[St.SZ]at c|.vw (.old _) _ _,_=>simp[St.SZ]at c|.fn _ _,_=>simp[St.SZ]at c
   grind
  .cases q
 .cases q
theorem Vj(h:Inv F S g a w){l:AS}{v:Value}(y:B1 F S g w (λ_=>False) l v){xs:List (List T)}(c:S.elems l=some xs) :
 (xs=[]/\v=.slice none 0 0)\/∃e,View w (λ_=>True) (.sl e xs) v/\∀q,S.wide q l=true->q=e:=by
 have up:∀{B:Blk} {x:T} {v:Value},View w B x v->View w (λ_=>True) x v:=λQ=>Q.mono (λ_ _=>trivial) λ_ _=>rfl
 match l,y with
 |.al r sub,⟨x,u,I,J,L⟩=>
  simp only[St.elems,I,AO]at c;obtain⟨ys,H,rfl⟩:=c;obtain⟨X,G,E⟩:=h.C0 r _ I;rw[J]at G;cases G;obtain⟨S0,_,hO⟩:=R3 E L;cases x with
  |sl e Y=>
   simp only[content,AD]at H;subst H;exact .inr ⟨e,up hO.view,λq j=>by simp[St.wide,I,eOf]at j;exact j.symm⟩
  |nil=>
   simp only[content,AD]at H;subst H;cases hO with
   |sc O _ _=>exact .inl ⟨by cases sub with|none=>rfl|some p=>simp[KF],O⟩
  |_=>simp[content]at H
 |.vw (.own r _) e ys,⟨_,⟨S0,_,hO⟩,_⟩=>
  simp only[St.elems,AD]at c;subst c;exact .inr ⟨e,up hO.view,λq j=>by simp[St.wide]at j;exact j.symm⟩
 |.vw (.old k) e ys,y=>
  simp only[St.elems,AD]at c;subst c;exact .inr ⟨e,up y,λq j=>by simp[St.wide]at j;exact j.symm⟩
 |.t x,y=>
  cases x with
  |nil=>simp only[St.elems,AD]at c;subst c;exact .inl ⟨rfl,y⟩|_=>simp[St.elems]at c
 |.und,_=>simp[St.elems]at c|.ow _,_=>simp[St.elems]at c|.ep _ _ _,_=>simp[St.elems]at c|.vp (.own _ _) _,_=>simp[St.elems]at c|.vp (.old _) _,_=>simp[St.elems]at c|.bp _ _,_=>simp[St.elems]at c|.fn _ _,_=>simp[St.elems]at c
theorem G9{e}(h:F8 P t e=true):∃el i,P.underlying t=some (.slice el)/\P.info? el=some i/\i.size=e/\i.bytes<=65536/\0<e:=by
 grind[F8]
theorem yR(h:Inv F S g a w){ty:TypeId}{o:Operand}{x:Opd}(e:d<F.N)(c:ev (.lens d x) S=some S')(E:isStr F.P t=true)(q:CH o x=true)(j:∀p∈CI o x,Mt F.A F.P p.1 p.2) :
 (∃v g',(∀w1:World,(Builtin.len_ #[t] ty #[a.eval o]).run F.P w1=.ok v w1)/\Inv F S' g' (a.put (some d) v) w):=by
 simp only[ev]at c;split at c
 .rename_i s y;have G:a.eval o=.string ⟨s.toArray⟩:=Q1 h y q j;obtain⟨g',B⟩:=LS (v:=.int .i64 s.length) h e c rfl
  grind[isStr,run_len_string,goInt,ByteArray.size]
 .cases c
theorem AHU(h:Inv F S g a w){t ty:TypeId}{o:Operand}{x:Opd}(H:d<F.N)(j:ev (.len d x) S=some S')
 (E:(match F.P.underlying t with|some (.slice _)=>true|_=>false)=true) (O:CH o x=true) (L:∀p∈CI o x,Mt F.A F.P p.1 p.2) :
 (∃v g',(∀w1:World,(Builtin.len_ #[t] ty #[a.eval o]).run F.P w1=.ok v w1)/\Inv F S' g' (a.put (some d) v) w):=by
 simp only[ev]at j;split at j
 .rename_i l J;obtain⟨y,Y⟩:=Gm h J O L;split at j
  .rename_i xs B;obtain⟨g',I⟩:=LS (v:=.int .i64 xs.length) h H j rfl;have q:∃ad cap,a.eval o=.slice ad xs.length cap:=by
    rcases Vj h y B with ⟨rfl,q⟩|⟨e,q,_⟩
    .exact⟨none,0,q⟩
    .generalize a.eval o=u at q;cases q with|nl=>exact⟨_,_,rfl⟩|sc Q=>exact Q.elim|sl c G=>exact⟨_,_,by rw[G]⟩
   obtain⟨ad,cap,q⟩:=q;split at E
   .rename_i el X;refine⟨_,g',?_,I⟩;rw[q];simp[Builtin.len_,run_underlying X,goInt]
   .cases E
  .cases j
 .cases j
theorem zt{xs}{j:Nat}{x:T}(h:(xs.getD n [])[j]?=some x):at2 xs n j=some x:=by
 grind[at2]
theorem AUB(h:Inv F S g a w){e:Nat}{o:Operand}{x i:Opd}(hd:d<F.N)(B:ev (.ia d e x i) S=some S')(he:F8 F.P t e=true)(ho:CH o x=true)(hoi:CH oi i=true)
 (hm:∀p∈CI o x,Mt F.A F.P p.1 p.2) (hmi:∀p∈CI oi i,Mt F.A F.P p.1 p.2) :
 ∃v g',(∀w1:World,(Instr.indexAt t (a.eval o) (a.eval oi)).run F.P w1=.ok v w1)/\Inv F S' g' (a.put (some d) v) w:=by
 obtain⟨el,ti,hu,hti,hsz,_,_⟩:=G9 he;simp only[ev]at B;split at B
 .rename_i l n hl hn;obtain⟨k,hk⟩:=Tq h hn hoi hmi;obtain⟨hok,hnow⟩:=Gm h hl ho hm;split at B
  .rename_i xs y;split at B
   .rename_i hcond;obtain⟨hwide,h0,h1⟩:=hcond;rw[hk];have G:n.toNat<xs.length:=by omega
    have fin:∀(blk off len cap:Nat) (q:AS),a.eval o=.slice (some ⟨blk,off,none⟩) len cap->len=xs.length->S.EY d ⟨.one,[q]⟩=some S'->(∀x,q≠.ow x) ->
     B1 F S g w (λ_=>False) q (.pointer (some ⟨blk,off+n.toNat*e,none⟩)) ->
     ∃v g',(∀w1:World,(Instr.indexAt t (a.eval o) (.int k n)).run F.P w1=.ok v w1)/\Inv F S' g' (a.put (some d) v) w:=by
     intro blk off len cap q hv hlen hp hq Q;obtain⟨g',hg⟩:=Qy h hd hp hq Q;refine⟨_,g',?_,hg⟩;rw[hv,<-hsz];exact λ_=>nc hu hti h0 (by omega)
    match l,hok with
    |.al r sub,⟨x,u,q1,q2,q3⟩=>
     have hwide':=hwide;simp only[St.wide,q1]at hwide';simp only[St.elems,q1,AO]at y;obtain⟨ys,hy,rfl⟩:=y;obtain⟨u',Z,X⟩:=h.C0 r _ q1;rw[q2]at Z;cases Z;cases x with
     |sl J zs=>
      simp only[eOf,beq_iff_eq]at hwide';subst hwide';simp only[content,AD]at hy;subst hy;cases X with
      |sc O _ _=>exact O.elim|nl=>cases sub<;>simp[KF]at G
      |sl c f k1 k2 k3 k4 k5 k6 k7 k8 k9 L=>
       rename_i blk off len cap arr E;cases sub with
       |none=>
        have hv:a.eval o=.slice (some ⟨blk,off,none⟩) len cap:=q3;exact fin blk off len cap _ hv (by simpa[KF] using k1) B (by simp) ⟨J,zs,blk,off,len,cap,q1,q2,by simpa[KF] using G,by simp⟩
       |some p=>
        obtain⟨lo,m⟩:=p;obtain⟨blk',off',len',cap',off'',cap'',p1,p2,p3,p4,p5,p6⟩|⟨p1,_⟩:=q3
        case inr=>cases p1
        cases p1;simp only[KF,List.length_take,List.length_drop]at G;have hc:cap''≠0:=by omega
        refine fin blk off'' m cap'' _ p2 (by simp[KF];omega) B (by simp) ⟨J,zs,blk,off,len,cap,q1,q2,by omega,?_⟩;rw[p5 hc,Bb];congr 3;omega
     |nil=>simp only[content,AD]at hy;subst hy;cases sub<;>simp[KF]at G
     |_=>simp[content]at hy
    |.vw (.own r _) J ys,⟨hal,⟨S0,hS0,hO⟩,_⟩=>
     simp only[St.elems,AD]at y;subst y;simp only[St.wide,beq_iff_eq]at hwide;subst hwide;obtain⟨vo,I⟩:∃vo,a.eval o=vo:=⟨_,rfl⟩;rw[I]at hO;cases hO with
     |sc O _ _=>exact O.elim|nl=>simp at G|sl c f k1 k2 k3 k4 k5 k6 k7 k8 k9 L=>
      rename_i blk off len cap arr E;refine fin blk off len cap _ I k1 B (by simp) ⟨hal,⟨blk,off+n.toNat*J,none⟩,λj=>c n.toNat j,λj=>f n.toNat j,rfl,rfl,λj x hx=>?_⟩;have H:=zt hx;refine⟨hS0 _ ((L _).2 (.inl rfl)),?_,λb hb=>hS0 b ((L b).2 (.inr ⟨_,_,_,H,hb⟩)),k7 _ _ _ H⟩;rw[k4.cell];exact k6 _ _ _ H
    |.vw (.old kk) J ys,hV=>
     simp only[St.elems,AD]at y;subst y;simp only[St.wide,beq_iff_eq]at hwide;subst hwide;obtain⟨vo,I⟩:∃vo,a.eval o=vo:=⟨_,rfl⟩;rw[I]at hV;have hV':View w (F.R kk) (.sl J ys) vo:=hV;cases hV' with
     |nl=>simp at G|sc O=>exact O.elim|sl c k1 k2 k3 k4 k5 k6=>
      rename_i ad len cap;have hne:ys≠[]:=by rintro rfl;simp at G
      obtain⟨Y,hR⟩:=k4 hne;obtain⟨blk,off,sp⟩:=ad;simp only at Y hR k5;subst Y;refine fin blk off len cap _ I k1 B (by simp) ⟨⟨blk,off+n.toNat*J,none⟩,λj=>c n.toNat j,rfl,rfl,λj x hx=>?_⟩;have H:=zt hx;exact⟨hR,k5 _ _ _ H,k6 _ _ _ H⟩
    |.t x,_=>cases x<;>first|(simp only[St.elems,AD]at y;subst y;simp at G)|simp[St.elems]at y
    |.und,_=>simp[St.elems]at y|.ow _,_=>simp[St.elems]at y|.ep _ _ _,_=>simp[St.elems]at y|.vp (.own _ _) _,_=>simp[St.elems]at y|.vp (.old _) _,_=>simp[St.elems]at y|.bp _ _,_=>simp[St.elems]at y|.fn _ _,_=>simp[St.elems]at y
   .cases B
  .cases B
 .cases B
theorem AUC(h:Inv F S g a w){o:Operand}{x i:Opd}(y:d<F.N)(c:ev (.ix d x i) S=some S')(q:isStr F.P t=true)(G:CH o x=true)(j:CH oi i=true)
 (B:∀p∈CI o x,Mt F.A F.P p.1 p.2) (e:∀p∈CI oi i,Mt F.A F.P p.1 p.2) :
 ∃v g',(∀w1:World,(Instr.index t (a.eval o) (a.eval oi)).run F.P w1=.ok v w1)/\Inv F S' g' (a.put (some d) v) w:=by
 simp only[ev]at c;split at c
 .rename_i s n H E;obtain⟨k,J⟩:=Tq h E j e;have O:a.eval o=.string ⟨s.toArray⟩:=Q1 h H G B;split at c
  .rename_i hcond;unfold isStr at q;split at q
   .rename_i L;obtain⟨g',I⟩:=LS (v:=.int .u8 (s.getD n.toNat 0).toNat) h y c rfl
    grind[yt]
   .cases q
  .cases c
 .cases c
theorem AUF(h:Inv F S g a w){op:UnOp}{o:Operand}{x:Opd}(y:d<F.N)(c:ev (.un d op x) S=some S')(G:CH o x=true)(E:∀p∈CI o x,Mt F.A F.P p.1 p.2) :
 ∃v g',(∀w1:World,(Op.unary op (a.eval o)).run F.P w1=.ok v w1)/\Inv F S' g' (a.put (some d) v) w:=by
 simp only[ev]at c;split at c
 .rename_i I H;have B:=Q1 h H G E;split at c
  .rename_i t j;cases I with
   |bool b=>
    have e:a.eval o=.bool b:=B;cases op<;>simp[unT]at j;subst j;obtain⟨g',q⟩:=LS (v:=.bool !b) h y c rfl;exact⟨_,g',by rw[e];intro w1;rfl,q⟩
   |int k n=>
    have e:a.eval o=.int k n:=B;cases op<;>simp[unT]at j;subst j;obtain⟨g',q⟩:=LS (v:=.int k (k.wrap (-n))) h y c rfl;refine⟨_,g',?_,q⟩;rw[e,<-Int.zero_sub];intro w1;rfl
   |_=>cases op<;>simp[unT]at j
  .cases c
 .cases c
theorem AHR(h:Inv F S g a w){s t:TypeId}{o:Operand}{x:Opd}(y:d<F.N)(c:ev (.cvI d k x) S=some S')(H:CH o x=true)(E:∀p∈CI o x,Mt F.A F.P p.1 p.2)
 (e:isInt F.P t k=true) (q:(match F.P.underlying s with|some (.int _)=>true|_=>false)=true) :
 ∃v g',(∀w1:World,(convert s t (a.eval o)).run F.P w1=.ok v w1)/\Inv F S' g' (a.put (some d) v) w:=by
 simp only[ev]at c;split at c
 .rename_i n G;obtain⟨L,J⟩:=Tq h G H E;obtain⟨g',B⟩:=LS (v:=.int k (k.wrap n)) h y c rfl;unfold isInt at e;split at e
  .rename_i O I;simp only[decide_eq_true_eq]at e;subst e;split at q
   .rename_i Q j;refine⟨_,g',?_,B⟩;rw[J];simp[convert,run_underlying I,run_underlying j,Conv.intToInt]
   .cases q
  .cases e
 .cases c
theorem ALO(h:Inv F S g a w){m:Bool}{oa ob:Operand}{x y:Opd}(H:d<F.N)(c:ev (.mm d m x y) S=some S')(E:CH oa x=true)(G:CH ob y=true)
 (j:∀p∈CI oa x,Mt F.A F.P p.1 p.2) (B:∀p∈CI ob y,Mt F.A F.P p.1 p.2) {ts:Array TypeId} {t:TypeId} :
 ∃v g',(∀w1:World,((if m then Builtin.max_ ts t #[a.eval oa,a.eval ob] else Builtin.min_ ts t #[a.eval oa,a.eval ob]):Sem Value).run F.P w1=.ok v w1)/\Inv F S' g' (a.put (some d) v) w:=by
 simp only[ev]at c;split at c
 .rename_i k p e q Q X;split at c
  .rename_i O;subst O;have J:a.eval oa=.int e p:=Q1 h Q E j;have L:a.eval ob=.int e q:=Q1 h X G B;cases m with
   |true=>
    obtain⟨g',I⟩:=LS (x:=.int e (if q>p then q else p)) (v:=.int e (if q>p then q else p)) h H (by simpa using c) rfl
    grind[run_max_int2]
   |false=>
    obtain⟨g',I⟩:=LS (x:=.int e (if q<p then q else p)) (v:=.int e (if q<p then q else p)) h H (by simpa using c) rfl;refine⟨_,g',?_,I⟩;rw[J,L];exact λw1=>run_min_int2 w1 ts t e e p q
  .cases c
 .cases c
theorem tC{w}{n:Int}{y:Nat}{c}(e:0<=n)(h:n<=y):(Instr.sliceBound (.int k n) y c).run P w=.ok n.toNat w:=by
 simp[Instr.sliceBound,asIntOf,e,h,go_sem]
theorem Oo(h:Inv F S g a w){len cap}{lo hi}{p}(j:S.range len xlo xhi=some p)(O:len<=cap)(e:VN lo xlo=true)(c:VN hi xhi=true)
(E:∀p∈Tv lo xlo,Mt F.A F.P p.1 p.2)(B:∀p∈Tv hi xhi,Mt F.A F.P p.1 p.2)  sl  :
 p.1<=p.2/\p.2<=len/\∀w1:World,(Instr.sliceBounds sl len cap (lo.map a.eval) (hi.map a.eval) none).run F.P w1=.ok (p.1,p.2,cap) w1:=by
 unfold St.range at j;split at j
 .rename_i x y H I;split at j
  .rename_i Q;cases j;refine⟨by simp;omega,by simp;omega,λw1=>?_⟩;have J:(match hi.map a.eval with|some v=>Instr.sliceBound v cap (if sl then .sliceAcap else .sliceAlen)|none=>(pure len:Sem Nat)).run F.P w1=.ok y.toNat w1:=by
    match hi,xhi,c with
    |none,none,_=>simp only[St.ATy,AD]at I;subst I;rfl|some o,some xo,c=>
     obtain⟨k,q⟩:=Tq h I c (λp G=>B p G);simp only[Ap,q];exact tC (by omega) (by omega)
   have L:(match lo.map a.eval with|some v=>Instr.sliceBound v y.toNat .sliceB|none=>(pure 0:Sem Nat)).run F.P w1=.ok x.toNat w1:=by
    match lo,xlo,e with
    |none,none,_=>simp only[St.ATy,AD]at H;subst H;rfl|some o,some xo,e=>
     obtain⟨k,q⟩:=Tq h H e (λp G=>E p G);simp only[Ap,q];exact tC (by omega) (by omega)
   generalize hi.map a.eval=vh at *;generalize lo.map a.eval=vl at *;unfold Instr.sliceBounds;cases vh<;>cases vl<;>simp_all[go_sem]
  .cases j
 .cases j
theorem yY(h:Inv F S g a w){o:Operand}{x:Opd}{lo hi:Option Operand}(Q:d<F.N)(c:ev (.WK d x xlo xhi) S=some S')(I:isStr F.P t=true)(Z:CH o x=true)
 (B:VN lo xlo=true) (y:VN hi xhi=true) (Y:∀p∈CI o x,Mt F.A F.P p.1 p.2) (G:∀p∈Tv lo xlo,Mt F.A F.P p.1 p.2) (E:∀p∈Tv hi xhi,Mt F.A F.P p.1 p.2) :
 ∃v g',(∀w1:World,(Instr.sliceAt t (a.eval o) (lo.map a.eval) (hi.map a.eval) none).run F.P w1=.ok v w1)/\Inv F S' g' (a.put (some d) v) w:=by
 simp only[ev]at c;split at c
 .rename_i s hs;have hv:a.eval o=.string ⟨s.toArray⟩:=Q1 h hs Z Y;split at c
  .rename_i p q hr;unfold isStr at I;split at I
   .rename_i J;obtain⟨L,O,e⟩:=Oo h hr (Ab _) B y G E false;simp only at L O e;obtain⟨g',X⟩:=LS (v:=.string ⟨((s.drop p).take (q-p)).toArray⟩) h Q c rfl;refine⟨_,g',λw1=>?_,X⟩;have e:=e w1;rw[hv,run_sliceAt_string _ _ _ _ _ _ J];have H:(⟨s.toArray⟩:ByteArray).size=s.length:=by simp[ByteArray.size]
    have j:(⟨s.toArray⟩:ByteArray).extract p q=⟨((s.drop p).take (q-p)).toArray⟩:=by
     apply ByteArray.ext;simp[ByteArray.data_extract,HJ]
    simp[Instr.slice,run_underlying J,H,go_sem]at e ⊢;simp[e,j,go_sem]
   .cases I
  .cases c
 .cases c
theorem yx{w:World}{i:TypeInfo}{ad:Option Addr}{len cap p q:Nat}{lo hi:Option Value}(h:P.underlying t=some (.slice el))(c:P.info? el=some i)
 (e:(Instr.sliceBounds true len cap lo hi none).run P w=.ok (p,q,cap) w) :
 (Instr.sliceAt t (.slice ad len cap) lo hi none).run P w=.ok (.slice (if cap=p then ad else ad.map (·.add (p*i.size))) (q-p) (cap-p)) w:=by
 simp[Instr.sliceAt,Instr.slice,run_underlying h,go_sem]at e ⊢;simp[e,Ha c,go_sem]
theorem AHW(h:Inv F S g a w){e:Nat}{o:Operand}{x:Opd}{lo hi:Option Operand}(hd:d<F.N)(y:ev (.sub d e x xlo xhi) S=some S')(he:F8 F.P t e=true)(ho:CH o x=true)
 (hlo:VN lo xlo=true) (hhi:VN hi xhi=true) (hm:∀p∈CI o x,Mt F.A F.P p.1 p.2) (hml:∀p∈Tv lo xlo,Mt F.A F.P p.1 p.2) (hmh:∀p∈Tv hi xhi,Mt F.A F.P p.1 p.2) :
 ∃v g',(∀w1:World,(Instr.sliceAt t (a.eval o) (lo.map a.eval) (hi.map a.eval) none).run F.P w1=.ok v w1)/\Inv F S' g' (a.put (some d) v) w:=by
 obtain⟨el,ti,hu,hti,hsz,_,_⟩:=G9 he;simp only[ev]at y;split at y
 .rename_i l hl;obtain⟨L,hnow⟩:=Gm h hl ho hm;split at y
  .rename_i xs B;have hxs':S.wide e l=true/\S.elems l=some xs:=by
    by_cases hw:S.wide e l=true
    .exact⟨hw,by simpa[hw] using B⟩
    .simp[hw]at B
   obtain⟨hwide,B⟩:=hxs';split at y
   .rename_i p q hr;have fin:∀(ad:Option Addr) (cap:Nat) (ql:AS),a.eval o=.slice ad xs.length cap->xs.length<=cap->S.EY d ⟨.one,[ql]⟩=some S'->(∀x,ql≠.ow x) ->
     (p<=q->q<=xs.length->B1 F S g w (λ_=>False) ql (.slice (if cap=p then ad else ad.map (·.add (p*e))) (q-p) (cap-p))) ->
     ∃v g',(∀w1:World,(Instr.sliceAt t (a.eval o) (lo.map a.eval) (hi.map a.eval) none).run F.P w1=.ok v w1)/\Inv F S' g' (a.put (some d) v) w:=by
     intro ad cap ql hv hlc hp hq hok';obtain⟨X,H,h3⟩:=Oo h hr hlc hlo hhi hml hmh true;obtain⟨g',hg⟩:=Qy h hd hp hq (hok' X H);refine⟨_,g',?_,hg⟩;rw[hv,<-hsz];exact λw1=>yx hu hti (h3 w1)
    match l,L with
    |.al r sub,⟨x,u,q1,q2,Z⟩=>
     have hwide':=hwide;simp only[St.wide,q1]at hwide';simp only[St.elems,q1,AO]at B;obtain⟨ys,hy,rfl⟩:=B;obtain⟨u',hu',hown⟩:=h.C0 r _ q1;rw[q2]at hu';cases hu';cases x with
     |sl J zs=>
      simp only[eOf,beq_iff_eq]at hwide';subst hwide';simp only[content,AD]at hy;subst hy;cases hown with
      |sc I _ _=>exact I.elim|nl hn=>
       have hxe:KF sub ([]:List (List T))=[]:=by cases sub<;>simp[KF]
       have hv:a.eval o=.slice none 0 0/\(sub=none\/sub=some (0,0)):=by
        cases sub with
        |none=>exact⟨Z,.inl rfl⟩|some pr=>
         obtain⟨lo0,m⟩:=pr;obtain⟨_,_,_,_,_,_,Z,_⟩|⟨_,Z,_,rfl,rfl⟩:=Z
         .cases Z
         .exact⟨Z,.inr rfl⟩
       obtain⟨hv,Y⟩:=hv;rw[hxe]at fin;rcases Y with rfl|rfl <;>
       .refine fin none 0 _ hv (EA _) y (by simp) ?_;intro X H;simp only[AM]at H;refine⟨_,_,q1,q2,?_⟩;have:p=0:=by omega
        subst this;have:q=0:=by omega
        subst this;exact .inr ⟨rfl,by simp,rfl,rfl,rfl⟩
      |sl c f k1 k2 k3 k4 k5 k6 k7 k8 k9 k10=>
       rename_i blk off len cap arr E;cases sub with
       |none=>
        have hv:a.eval o=.slice (some ⟨blk,off,none⟩) len cap:=Z;simp only[KF]at fin;refine fin (some ⟨blk,off,none⟩) cap _ (by rw[hv,k1]) (by omega) y (by simp) ?_;intro X H;refine⟨.sl J zs,_,q1,q2,?_⟩;by_cases O:cap=p
        .refine .inl ⟨blk,off,len,cap,off,cap-p,rfl,by simp[O],by omega,rfl,λI=>(I (by omega)).elim,Nat.le_add_right _ _⟩
        .refine .inl ⟨blk,off,len,cap,off+p*J,cap-p,rfl,by simp[O,G3],by omega,rfl,λ_=>rfl,Ab _⟩
       |some pr=>
        obtain⟨lo0,m⟩:=pr;obtain⟨blk',off',len',cap',off'',cap'',p1,p2,p3,p4,p5,p6⟩|⟨p1,_⟩:=Z
        case inr=>cases p1
        cases p1;have G:(KF (some (lo0,m)) zs).length=m:=by simp[KF];omega
        refine fin (some ⟨blk,off'',none⟩) cap'' _ (by rw[p2,G]) (by omega) y (by simp) ?_;intro X H;rw[G]at H;refine⟨.sl J zs,_,q1,q2,?_⟩;have hmul:(lo0+p)*J=lo0*J+p*J:=Bb ..;by_cases O:cap''=p
        .exact .inl ⟨blk,off,len,cap,off'',cap''-p,rfl,by simp[O],by omega,by omega,λI=>(I (by omega)).elim,by omega⟩
        .have:=p5 (by omega);exact .inl ⟨blk,off,len,cap,off''+p*J,cap''-p,rfl,by simp[O,G3],by omega,by omega,λ_=>by omega,by omega⟩
     |nil=>
      simp only[content,AD]at hy;subst hy;have hxe:KF sub ([]:List (List T))=[]:=by cases sub<;>simp[KF]
      cases hown with
      |sc hs _ _=>
       have hs':u=.slice none 0 0:=hs;have hv:a.eval o=.slice none 0 0:=by
        cases sub with
        |none=>exact(show a.eval o=u from Z).trans hs'|some pr=>exact Z.1.trans hs'
       have Y:sub=none\/sub=some (0,0):=by
        cases sub with
        |none=>exact .inl rfl|some pr=>obtain⟨_,e1,e2⟩:=Z;exact .inr (by cases pr;simp_all)
       rw[hxe]at fin;rcases Y with rfl|rfl
       .refine fin none 0 _ hv (EA _) y (by simp) ?_;intro X H;simp only[AM]at H;refine⟨.nil,u,q1,q2,?_⟩;refine⟨?_,by omega,by omega⟩;rw[hs'];have:p=0:=by omega
        subst this;have:q=0:=by omega
        subst this;simp
       .refine fin none 0 _ hv (EA _) y (by simp) ?_;intro X H;simp only[AM]at H;refine⟨.nil,u,q1,q2,?_⟩;refine⟨?_,by omega,by omega⟩;rw[hs'];have:p=0:=by omega
        subst this;have:q=0:=by omega
        subst this;simp
     |_=>simp[content]at hy
    |.vw s J ys,L=>
     simp only[St.elems,AD]at B;subst B;simp only[St.wide,beq_iff_eq]at hwide;subst hwide;obtain⟨vo,Q⟩:∃vo,a.eval o=vo:=⟨_,rfl⟩;cases s with
     |own r=>
      obtain⟨hal,⟨S0,hS0,hO⟩,_⟩:=L;rw[Q]at hO;have hO2:=hO;cases hO with
      |sc I _ _=>exact I.elim|nl hn=>
       refine fin none 0 _ Q (EA _) y (by simp) ?_;intro X H;simp only[AM]at H;have:p=0:=by omega
       subst this;have:q=0:=by omega
       subst this;exact⟨hal,⟨S0,hS0,by simpa using Own.nl hn⟩,trivial⟩
      |sl c f k1 k2 k3 k4 k5 k6 k7 k8 k9 k10=>
       rename_i blk off len cap arr E;refine fin (some ⟨blk,off,none⟩) cap _ (by rw[Q,k1]) (by omega) y (by simp) ?_;intro X H;by_cases O:cap=p
       .obtain⟨S1,hS1,hO3⟩:=hO2.sub (lo:=p) (n:=q-p) (off':=off) (cap':=cap-p) (by omega) (by omega) (Ab _) (λI=>(I (by omega)).elim) (by omega);exact⟨hal,⟨S1,λb hb=>hS0 b (hS1 b hb),by simpa[O] using hO3⟩,trivial⟩
       .obtain⟨S1,hS1,hO3⟩:=hO2.sub (lo:=p) (n:=q-p) (off':=off+p*J) (cap':=cap-p) (by omega) (by omega) (Ab _) (λ_=>rfl) (Ab _);exact⟨hal,⟨S1,λb hb=>hS0 b (hS1 b hb),by simpa[O,G3] using hO3⟩,trivial⟩
     |old k=>
      rw[Q]at L;have hV:View w (F.R k) (.sl J ys) vo:=L;cases hV with
      |sc I=>exact I.elim|nl=>
       refine fin none 0 _ Q (EA _) y (by simp) ?_;intro X H;simp only[AM]at H;have:p=0:=by omega
       subst this;have:q=0:=by omega
       subst this;exact .nl
      |sl c k1 k2 k3 k4 k5 k6=>
       rename_i ad len cap;refine fin (some ad) cap _ (by rw[Q,k1]) (by omega) y (by simp) ?_;intro X H;have hsubat:∀i j x,at2 ((ys.drop p).take (q-p)) i j=some x->i<q-p/\at2 ys (p+i) j=some x:=λi j x hx=>PF hx
       have G:((ys.drop p).take (q-p)).length=q-p:=by simp;omega
       have hrows:∀row∈(ys.drop p).take (q-p),row.length=J:=λrow hr=>k3 row (C5 (FK hr))
       have hne:(ys.drop p).take (q-p)≠[]->ys≠[]/\cap≠p:=by
        intro I;have:0<((ys.drop p).take (q-p)).length:=List.length_pos_iff.2 I;rw[G]at this;refine⟨by rintro rfl;simp at H;omega,by omega⟩
       have hV2:View w (F.R k) (.sl J ((ys.drop p).take (q-p))) (.slice (some (if cap=p then ad else ad.add (p*J))) (q-p) (cap-p)):=by
        have hadd:ad.spot=none->cap≠p->(if cap=p then ad else ad.add (p*J)).block=ad.block/\(if cap=p then ad else ad.add (p*J)).off=ad.off+p*J/\(if cap=p then ad else ad.add (p*J)).spot=none:=by
         intro hsp O;obtain⟨b,of,sp⟩:=ad;simp only at hsp;subst hsp;simp[O,G3]
        refine .sl (λi j=>c (p+i) j) G.symm (by omega) hrows ?_ ?_ ?_
        .intro I;obtain⟨e1,e2⟩:=hne I;obtain⟨f1,f2⟩:=k4 e1;obtain⟨g1,g2,g3⟩:=hadd f1 e2;exact⟨g3,by rw[g1];exact f2⟩
        .intro i j x hx;obtain⟨m1,m2⟩:=hsubat i j x hx;have I:(ys.drop p).take (q-p)≠[]:=by intro I;rw[I]at G;simp at G;omega
         obtain⟨e1,e2⟩:=hne I;obtain⟨g1,g2,g3⟩:=hadd (k4 e1).1 e2;rw[g1,g2];have:=k5 _ _ _ m2;rw[Bb]at this;rw[<-this];congr 2;omega
        .intro i j x hx;exact k6 _ _ _ (hsubat i j x hx).2
       show View w (F.R k) _ _;by_cases O:cap=p
       .rw[AW O]at hV2 ⊢;exact hV2
       .rw[AT O]at hV2 ⊢;exact hV2
    |.t x,L=>
     cases x with
     |nil=>
      simp only[St.elems,AD]at B;subst B;refine fin none 0 _ L (EA _) y (by simp) ?_;intro X H;simp only[AM]at H;have:p=0:=by omega
      subst this;have:q=0:=by omega
      subst this;rfl
     |_=>simp[St.elems]at B
    |.und,_=>simp[St.elems]at B|.ow _,_=>simp[St.elems]at B|.ep _ _ _,_=>simp[St.elems]at B|.vp _ _,_=>simp[St.elems]at B|.bp _ _,_=>simp[St.elems]at B|.fn _ _,_=>simp[St.elems]at B
   .cases y
  .cases y
 .cases y
theorem AEe{P}{w}{op}{t}{ox oy}{x y r}{vx vy}(H:Sc x vx)(I:Sc y vy)(c:fB op x y=some r) :
 ∃v,(do eqGuard op t ox oy vx vy;binOp op t vx vy:Sem Value).run P w=.ok v w/\Sc r v:=by
 match x,y,c with
 |.int k p,.int J q,c=>
  have h:vx=.int k p:=H;have j:vy=.int J q:=I;subst h j;have E:(eqGuard op t ox oy (.int k p) (.int J q)).run P w=.ok () w:=by cases op<;>simp[eqGuard]
  rw[Am,E,Dl];simp only[fB,AL4]at c;cases op<;>simp only[AHu,cL]at c
  case shl=>split at c<;>simp at c;subst c;rename_i e;exact⟨_,by simp[binOp,Op.shift,e],rfl⟩
  case shr=>split at c<;>simp at c;subst c;rename_i e;exact⟨_,by simp[binOp,Op.shift,e],rfl⟩
  case quo=>
   split at c
   .split at c
    .simp at c
    .rename_i B e;subst B;cases c;exact⟨_,by simp[binOp,Op.intDiv,e],rfl⟩
   .simp at c
  case rem=>
   split at c
   .split at c
    .simp at c
    .rename_i B e;subst B;cases c;exact⟨_,by simp[binOp,Op.intDiv,e],rfl⟩
   .simp at c
  all_goals
   split at c
   .rename_i B;subst B
    first
     |(cases c;exact⟨_,by simp[binOp,Op.intArith,Op.intBits,Op.intCmp],rfl⟩)
     |simp at c
   .simp at c
 |.str p,.str q,c=>
  have h:vx=.string ⟨p.toArray⟩:=H;have j:vy=.string ⟨q.toArray⟩:=I;subst h j;have E:(eqGuard op t ox oy (.string ⟨p.toArray⟩) (.string ⟨q.toArray⟩)).run P w=.ok () w:=by cases op<;>simp[eqGuard]
  rw[Am,E,Dl];have G:∀s:List UInt8,(⟨s.toArray⟩:ByteArray).toList=s:=λs=>by rw[ByteArray.toList_eq]
  simp only[fB,AL4]at c;cases op<;>simp at c
  case add=>
   obtain⟨L,rfl⟩:=c;refine⟨.string ⟨(p++q).toArray⟩,?_,rfl⟩;have O:(⟨p.toArray⟩:ByteArray).size+(⟨q.toArray⟩:ByteArray).size<=9223372036854775807:=by
    simp only[ByteArray.size,A1,P0]at *;omega
   rw[<-ByteArray.mk_append_mk];exact run_string_add_sum w _ _ O
  case eql=>subst c;exact⟨_,by simp[binOp,Op.stringOp,G],rfl⟩
  case neq=>subst c;exact⟨.bool (p != q),by simp[binOp,Op.stringOp,G,bne],rfl⟩
theorem AE9{ls}{ts}(h:WM ls=some ts):ls=ts.map .t:=by
 induction ls generalizing ts with
 |nil=>simp[WM]at h;subst h;rfl|cons l ls c=>
  cases l<;>simp only[WM,AO,reduceCtorEq]at h
  grind
theorem lO:∀(m:Nat) {ks:List Kd} {as c:List T} {r:Bool},Sf ks as c=some r ->
 ∃p q,Sf (ks.take m) (as.take m) (c.take m)=some p/\Sf (ks.drop m) (as.drop m) (c.drop m)=some q/\r=(p&&q)
 |0,ks,as,c,r,h=>⟨true,r,by simp[Sf],by simpa using h,by simp⟩|m+1,ks,as,c,r,h=>by
  match ks,as,c,h with
  | [],[],[],h=>simp[Sf]at h;subst h;exact⟨true,true,by simp[Sf],by simp[Sf],rfl⟩|k::ks,a::as,b::c,h=>
   simp only[Sf]at h;split at h
   .rename_i p q y B;cases h;obtain⟨E,q',e,j,rfl⟩:=lO m B;exact⟨p&&E,q',by simp[Sf,y,e],by simpa using j,by cases p<;>rfl⟩
   .cases h
def At(o:Nat)(xs:Array Value)(as:List T):Prop:=∀(c:Nat) x,as[c]?=some x->∃v,xs[o+c]?=some v/\Sc x v
theorem At.drop{o}{xs}(h:At o xs as) m :At (o+m) xs (as.drop m):=λc x e=>by
 rw[Bz]at e;obtain⟨v,q,j⟩:=h _ _ e;exact⟨v,by rw[<-q];congr 1;omega,j⟩
theorem At.take{o}{xs}(h:At o xs as) m :At 0 (xs.extract o (o+m)) (as.take m):=λc x e=>by
 rw[CB]at e;split at e
 .obtain⟨v,j,q⟩:=h _ _ e;have:=(BB.1 j).1;exact⟨v,by rw[<-j,Array.getElem?_extract,AW (by omega)];congr 1;omega,q⟩
 .cases e
theorem yv{w:World}{i:TypeInfo}{xs:Array Value}{o:Nat}(c:P.underlying t=some (.struct fs))(hi:P.info? t=some i) :
 (part t xs o).run P w=.ok (.agg (xs.extract o (o+i.size))) w:=by
 simp_all[part,isAgg,run_underlying c,Px,go_sem,Go.sizeOf,typeInfo]
theorem AHm{P:Program}{w:World}{d:Nat}{sub:TypeId->List Kd->Bool}
 (Q:∀t ks as B r (xs ys:Array Value),sub t ks=true->Sf ks as B=some r->At 0 xs as->At 0 ys B->∃fs,P.underlying t=some (.struct fs)/\(Op.equalIn (d+1) t (.agg xs) (.agg ys)).run P w=.ok r w)
 {xs ys:Array Value} {fs:List Field} {ks:List Kd} {as B:List T} {r:Bool} {o:Nat} (e:Qa P sub o fs ks=true) (E:Sf ks as B=some r)
 (hx:At o xs as) (hy:At o ys B):(Op.eqFields (d+1) xs ys fs).run P w=.ok r w:=by
 induction fs generalizing ks as B r o with
 |nil=>
  cases ks<;>simp[Qa]at e;cases as<;>cases B<;>simp[Sf]at E;subst E;rfl
 |cons f fs ih=>
  simp only[Qa,AF,DA,beq_iff_eq,bne_iff_ne]at e;obtain⟨⟨h1,h2⟩,e⟩:=e;rcases e with e|e
  .match ks,e with
   |k::ks,e=>
   simp only[AF]at e;obtain⟨O,h4⟩:=e
   match as,B,E with
   |x::as,y::B,E=>
   simp only[Sf]at E;split at E
   .rename_i p q c hq;cases E;obtain⟨vx,X,G⟩:=hx 0 x rfl;obtain⟨vy,Y,H⟩:=hy 0 y rfl;have I:=ih h4 hq (hx.drop 1) (hy.drop 1);simp only[C9]at X Y;have key:∃Z,P.underlying f.type=some Z/\Px Z=false/\(Op.equalIn (d+1) f.type vx vy).run P w=.ok p w:=by
     unfold Aah at O;split at O
     .rename_i k0 h
      match x,y,c with
      |.int k1 a,.int k2 b,c=>
       simp only[eqT]at c;split at c
       .rename_i hk;subst hk;cases c;have J:vx=_:=G;have L:vy=_:=H;subst J L;exact⟨_,h,rfl,run_equalIn_int w d f.type k1 k0 a b h⟩
       .cases c
     .rename_i h
      match x,y,c with
      |.bool a,.bool b,c=>
       simp only[eqT,AD]at c;subst c;have J:vx=_:=G;have L:vy=_:=H;subst J L;exact⟨_,h,rfl,run_equalIn_bool w d f.type a b h⟩
     .rename_i h
      match x,y,c with
      |.str a,.str b,c=>
       simp only[eqT,AD]at c;subst c;have J:vx=_:=G;have L:vy=_:=H;subst J L;refine⟨_,h,rfl,?_⟩;have:=run_equalIn_string (P:=P) w d f.type ⟨a.toArray⟩ ⟨b.toArray⟩ h;rw[this,ByteArray.toList_eq,ByteArray.toList_eq]
     .cases O
    obtain⟨Z,h,hag,j⟩:=key;have hpart:∀(zs:Array Value) v,zs[o]?=some v->(part f.type zs f.offset).run P w=.ok v w:=by
     intro zs v hz;rw[h2];cases Z<;>simp_all[part,isAgg,run_underlying h,Px,go_sem]
    simp only[Op.eqFields];rw[AW h1];simp only[Am,hpart xs vx X,hpart ys vy Y,j,Dl];cases p with
    |true=>simpa using I|false=>simp
   .cases E
  .split at e
   .rename_i i hi;simp only[AF]at e;obtain⟨O,h4⟩:=e;obtain⟨p,q,c,hq,rfl⟩:=lO i.size E;obtain⟨gs,h,j⟩:=Q _ _ _ _ _ _ _ O c (hx.take i.size) (hy.take i.size);have I:=ih h4 hq (hx.drop i.size) (hy.drop i.size);simp only[Op.eqFields];rw[AW h1,h2];simp only[Am,yv h hi,j,Dl];cases p with|true=>simpa using I|false=>simp
   .cases e
theorem ALf{P}{w}:∀(n d:Nat) t ks as e r (xs ys:Array Value),ADT P n t ks=true->Sf ks as e=some r->At 0 xs as->At 0 ys e ->
 ∃fs,P.underlying t=some (.struct fs)/\(Op.equalIn (d+n+1) t (.agg xs) (.agg ys)).run P w=.ok r w
 |0,_,_,_,_,_,_,_,_,h,_,_,_=>by cases h
 |n+1,d,t,ks,as,e,r,xs,ys,h,q,y,B=>by
  simp only[ADT]at h;split at h
  .rename_i fs j;simp only[AF,A8]at h;have c:P.fieldsOf t=fs:=by simp[Program.fieldsOf,j]
   refine⟨fs,j,?_⟩;rw[show d+(n+1)+1=(d+n+1)+1 from by omega,run_equalIn_struct w (d+n+1) t xs ys (by rw[c];exact j) h.2,c];exact AHm (ALf n d) h.1 q y B
  .cases h
theorem AZz{r}{v c}(e:aN r=false)(h:Sc r v)(j:Sc r c):v=c:=by
 cases r with
 |top=>cases e
 |un=>cases e
 |sl=>exact h.elim|mp=>exact h.elim|_=>exact(Eq.trans (show v=_ from h) (show c=_ from j).symm)
theorem lN{b}(h:o7 op b=some r):aN r=false:=by
 unfold o7 at h;split at h<;>cases h<;>rfl
theorem AMi{x y}(h:cL op k x y=some r):aN r=false:=by
 unfold cL at h;split at h<;>first|(cases h;rfl)|(split at h<;>first|(cases h;done)|(cases h;rfl))|(cases h;done)
theorem AVt{x y}(h:AHu op k x y=some r):aN r=false:=by
 unfold AHu at h;split at h
 .cases h
 .split at h<;>cases h<;>rfl
theorem AO5{x y}(h:AL4 op x y=some r):aN r=false:=by
 unfold AL4 at h;split at h
 .grind[AVt,AMi]
 .split at h
  .split at h<;>cases h;rfl
  .cases h;rfl
  .cases h;rfl
  .cases h
 .split at h<;>cases h<;>rfl
 .cases h
theorem AWn{c}{x y}(h:S.bin c op x y=some r):aN r=false:=by
 unfold St.bin at h;split at h
 .split at h
  .unfold fB at h;split at h<;>first|exact AO5 h|cases h
  .cases h
 .grind[lN]
 .grind[lN]
 grind[lN]
theorem AHN(h:Inv F S g a w){c:Cls}{oy:Operand}{x y:Opd}(hd:d<F.N)(G:ev (.bin d c op x y) S=some S')(I:AAM F.P c t=true)(hox:CH ox x=true)(hoy:CH oy y=true)
 (hmx:∀p∈CI ox x,Mt F.A F.P p.1 p.2) (hmy:∀p∈CI oy y,Mt F.A F.P p.1 p.2) :
 ∃v g',(∀w1:World,(do eqGuard op t ox oy (a.eval ox) (a.eval oy);binOp op t (a.eval ox) (a.eval oy):Sem Value).run F.P w1=.ok v w1)/\Inv F S' g' (a.put (some d) v) w:=by
 simp only[ev]at G;split at G
 .rename_i ex ey hrx hry;split at G
  .rename_i r j;have rx:=Oq h hrx hox hmx;have ry:=Oq h hry hoy hmy;have one:∀{l:AS} {v:Value},Rd F S g w ⟨.one,[l]⟩ v->B1 F S g w (λ_=>False) l v:=by
    rintro l v ⟨vs,h1,h2,_,h4⟩;obtain⟨u,E,Y⟩:=h4 0 _ rfl;subst h1;cases vs with
    |nil=>simp at E|cons v vs=>simp only[AN,AD]at E;subst E;exact Y
   suffices hs:∀w1:World,∃v,(do eqGuard op t ox oy (a.eval ox) (a.eval oy);binOp op t (a.eval ox) (a.eval oy):Sem Value).run F.P w1=.ok v w1/\Sc r v by
    obtain⟨v,h1,h2⟩:=hs w;obtain⟨g',Q⟩:=LS h hd G h2;refine⟨v,g',λw1=>?_,Q⟩;obtain⟨v1,h3,h4⟩:=hs w1;rw[h3,AZz (AWn j) h4 h2]
   intro w1;unfold St.bin at j;cases c with
   |num=>
    simp only at j;split at j
    .exact AEe (one rx) (one ry) j
    .cases j
   |bool=>
    simp only at j;split at j
    .rename_i p q;have Z:a.eval ox=.bool p:=one rx;have e2:a.eval oy=.bool q:=one ry;rw[Z,e2];have E:F.P.underlying t=some .bool:=by
      unfold AAM at I;split at I<;>simp_all
     have Q:(eqGuard op t ox oy (.bool p) (.bool q)).run F.P w1=.ok () w1:=by cases op<;>simp[eqGuard]
     rw[Am,Q,Dl];cases op<;>simp[o7]at j
     .subst j;exact⟨_,run_eql_bool w1 t p q E,rfl⟩
     .subst j;exact⟨_,run_neq_bool w1 t p q E,rfl⟩
    .cases j
   |sl=>
    simp only at j;split at j
    .rename_i l;split at j
     .rename_i b B;have e2:a.eval oy=.slice none 0 0:=one ry;rw[e2];have E:∃e,F.P.underlying t=some (.slice e):=by
       unfold AAM at I;split at I<;>simp_all
      obtain⟨e,E⟩:=E;have hnil:∃ad n c,a.eval ox=.slice ad n c/\ad.isNone=b:=by
       match l,one rx,B with
       |.t x,hl,B=>
        cases x<;>simp[St.V3]at B;subst B;exact⟨none,0,0,hl,rfl⟩
       |.vw _ e' [],_,B=>simp[St.V3]at B|.vw (.own r' _) e' (_::xs),⟨_,⟨S0,_,hO⟩,_⟩,B=>
        simp only[St.V3,AD]at B;subst B;generalize a.eval ox=v at hO;cases hO with
        |sc X _ _=>exact X.elim|sl=>exact⟨_,_,_,rfl,rfl⟩
       |.vw (.old k) e' (_::xs),hl,B=>
        simp only[St.V3,AD]at B;subst B;have hV:View w (F.R k) (.sl e' (_::xs)) (a.eval ox):=hl;generalize a.eval ox=v at hV;cases hV with
        |sc X=>exact X.elim|sl=>exact⟨_,_,_,rfl,rfl⟩
       |.al r' none,⟨x,u,q1,q2,q3⟩,B=>
        have q3':a.eval ox=u:=q3;obtain⟨u',hu',L⟩:=h.C0 r' _ q1;rw[q2]at hu';cases hu';simp only[St.V3,q1]at B;split at B
        .simp at B;subst B;rename_i H;cases H;cases L with|sc X _ _=>exact⟨none,0,0,q3'.trans X,rfl⟩
        .simp at B;subst B;rename_i H;cases H;cases L with|sc X _ _=>exact X.elim|sl=>exact⟨_,_,_,q3',rfl⟩
        .cases B
       |.al r' (some _),_,B=>simp[St.V3]at B
      obtain⟨ad,n,cp,Z,hb'⟩:=hnil;rw[Z];have Q:(eqGuard op t ox oy (.slice ad n cp) (.slice none 0 0)).run F.P w1=.ok () w1:=by cases op<;>simp[eqGuard]
      rw[Am,Q,Dl];cases op<;>simp[o7]at j
      .subst j;rw[<-hb'];exact⟨_,Lib.run_eql_slice_nil w1 t e ad n cp 0 0 E,rfl⟩
      .subst j;rw[<-hb'];exact⟨_,run_neq_slice_nil w1 t e ad n cp E,rfl⟩
     .cases j
    .cases j
   |agg ks=>
    simp only at j;split at j
    .rename_i as bs;split at j
     .rename_i as' bs' ha B;split at j
      .rename_i b H;have ea:=AE9 ha;have eb:=AE9 B;subst ea eb;have J:∃fs,F.P.underlying t=some (.struct fs)/\(ADT F.P 4 t ks&&!F.P.eqGuardType F.P.depth t)=true:=by
        unfold AAM at I;cases E:F.P.underlying t with
        |none=>simp[E]at I|some dd=>
         rw[E]at I;cases dd<;>first|exact⟨_,rfl,I⟩|simp at I
       obtain⟨fs,E,J⟩:=J;simp only[AF,A8]at J;obtain⟨hf,hgd⟩:=J;have cells:∀{ts:List T} {v:Value},Rd F S g w ⟨.agg,ts.map .t⟩ v->∃xs:Array Value,v=.agg xs/\At 0 xs ts:=by
        rintro ts v ⟨vs,h1,_,_,h4⟩;refine⟨vs.toArray,h1,λc x hx=>?_⟩;obtain⟨u,E,Y⟩:=h4 c (.t x) (by simp[hx]);exact⟨u,by simpa using E,Y⟩
       obtain⟨xs,Z,hxs⟩:=cells rx;obtain⟨ys,e2,hys⟩:=cells ry;rw[Z,e2];have Q:(eqGuard op t ox oy (.agg xs) (.agg ys)).run F.P w1=.ok () w1:=run_eqGuard_agg w1 op t ox oy xs ys hgd;rw[Am,Q,Dl];have O:(Op.equalIn 10000 t (.agg xs) (.agg ys)).run F.P w1=.ok b w1:=(ALf 4 9995 _ _ _ _ _ _ _ hf H hxs hys).choose_spec.2;cases op<;>simp[o7]at j
       .subst j;exact⟨.bool b,(by rw[run_eql_struct,O];rfl),rfl⟩
       .subst j;exact⟨.bool !b,(by rw[run_neq_struct,O];rfl),rfl⟩
      .cases j
     .cases j
    .cases j
  .cases G
 .cases G
theorem AMm{ns}{vs:List Value}{i:Nat}{n:Option Nat}(h:ns[i]?=some n):(Jc ns vs)[i]?=some (mkV (shN n) ((vs.drop (U3 (ns.take i))).take (Dn n))):=by
 induction ns generalizing vs i with
 |nil=>simp at h|cons m ns c=>
  cases i with
  |zero=>
   simp only[AN,AD]at h;subst h;cases m with
   |none=>cases vs<;>simp[Jc,mkV,shN,Dn,U3]
   |some k=>simp[Jc,mkV,shN,Dn,U3]
  |succ i=>
   simp only[CJ]at h;cases m with
   |none=>simp only[Jc,CJ,Cy,U3,Dn];rw[c h,C3];rfl|some k=>simp only[Jc,CJ,Cy,U3,Dn];rw[c h,C3];rfl
theorem AHS(h:Inv F S g a w){i:Nat}{o:Operand}{x:Opd}(hd:d<F.N)(j:ev (.ext d x i) S=some S')(E:CH o x=true) :
 ∃v g',(∀w1:World,(Instr.extract (a.eval o) i).run F.P w1=.ok v w1)/\Inv F S' g' (a.put (some d) v) w:=by
 simp only[ev]at j;split at j
 .rename_i s
  match o,E with
  |.tmp t,E=>
   simp only[CH,beq_iff_eq]at E;subst E;split at j
   .rename_i ns cs X;split at j
    .rename_i n hn;split at j
     .rename_i hle;split at j
      .rename_i S1 ls L;obtain⟨_,Y,Z⟩:=h.tms t _ X;have J:Rd F S g w ⟨shN n,((Sk t 0 cs).drop (U3 (ns.take i))).take (Dn n)⟩ (mkV (shN n) (((g.tv t).drop (U3 (ns.take i))).take (Dn n))):=by
        refine⟨_,rfl,by simp[zn,Z],?_,?_⟩
        .intro x O;have O:=C5 (FK O);obtain⟨c,y⟩:=B2 O;rw[WS,AO]at y;obtain⟨l,_,q⟩:=y;exact AOv q
        .intro c l q;simp only[CB,Bz]at q ⊢;split at q
         .rename_i y;rw[WS,AO]at q;obtain⟨l0,H,rfl⟩:=q;have B:S.at (.tmp t (U3 (ns.take i)+c))=some l0:=by simp[St.at,X,H]
          obtain⟨v,G,I⟩:=h.C0 _ _ B;exact⟨v,by rw[AW y];exact G,by simpa using AOu rfl B G I⟩
         .cases q
       obtain⟨vs,nf,h4,hi,y,_⟩:=Y3 h J L;obtain⟨g',Q⟩:=hi.EY (e:=⟨shN n,ls⟩) j hd y;refine⟨_,g',?_,by rw[<-h4]at Q;exact Q⟩;have G:a.eval (.tmp t)=.tuple (Jc ns (g.tv t)).toArray:=Y;rw[G];have:=AMm (vs:=g.tv t) hn;simp[Instr.extract,this]
      .cases j
     .cases j
    .cases j
   .cases j
 .cases j
theorem yw{w}{d}{xs}{o}(c:P.underlying t=some d)(e:Px d=false)(h:xs[o]?=some v):(part t xs o).run P w=.ok v w:=by
 cases d<;>simp_all[part,isAgg,run_underlying c,Px,go_sem]
theorem AUP{fp}{l}{v}(c:l.plain=true)(h:B1 F S g w fp l v):Fe F g w l v:=by
 match l,h with
 |.t _,h=>exact h|.und,h=>exact h|.vw (.old _) _ _,h=>exact h|.vp (.old _) _,h=>exact h|.bp _ _,h=>exact h|.vw (.own _ _) _ _,_=>cases c
 |.vp (.own _ _) _,_=>cases c
 |.ow _,_=>cases c
 |.al _ _,_=>cases c
 |.ep _ _ _,_=>cases c
 |.fn _ _,_=>cases c
theorem AHT(h:Inv F S g a w){off f:Nat}{n:Option Nat}{fl:Field}{o:Operand}{x:Opd}(hd:d<F.N)(j:ev (.fld d off n x) S=some S')(J:F.P.underlying t=some (.struct fs))(B:fs[f]?=some fl)
 (q:fl.offset=off) (y:JE F.P fl.type n=true) (ho:CH o x=true) (hm:∀p∈CI o x,Mt F.A F.P p.1 p.2) :
 ∃v g',(∀w1:World,(Instr.field t (a.eval o) f).run F.P w1=.ok v w1)/\Inv F S' g' (a.put (some d) v) w:=by
 simp only[ev]at j;split at j
 .rename_i cs hrx;split at j
  .rename_i Y;obtain⟨vs,h1,L,h3,h4⟩:=Oq h hrx ho hm;have hv:a.eval o=.agg vs.toArray:=h1;have O:Cells F S g w ((cs.drop off).take (Dn n)) ((vs.drop off).take (Dn n)) λ_ _=>False:=by
    refine Cells.free (by simp at L;simp[L]) ?_ (λx hx=>h3 x (C5 (FK hx)));intro c l I;simp only[CB,Bz]at I ⊢;split at I
    .rename_i O;obtain⟨u,J,hok⟩:=h4 _ l I;exact⟨u,by rw[AW O];exact J,hok⟩
    .cases I
   obtain⟨g',hg⟩:=h.EY (e:=⟨shN n,(cs.drop off).take (Dn n)⟩) j hd O;refine⟨_,g',?_,hg⟩;rw[hv];simp only at L;unfold JE at y;split at y
   .rename_i dsc i H hi;cases n with
    |some k=>
     simp only[AF,beq_iff_eq]at y;obtain⟨hst,hk⟩:=y;subst hk;obtain⟨fs',rfl⟩:∃fs,dsc=.struct fs:=by cases dsc<;>simp[Qf]at hst;exact⟨_,rfl⟩
     have Q:vs.toArray.extract off (off+i.size)=((vs.drop off).take i.size).toArray:=by
      simp[HJ]
     simp[Instr.field,run_underlying J,B,q,asAgg,part,isAgg,run_underlying H,Ha hi,Q,mkV,shN,Dn,go_sem]
    |none=>
     simp only[AF,beq_iff_eq,A8]at y;simp only[Dn]at Y;have G:off<vs.length:=by omega
     have E:vs.toArray[off]?=some vs[off]:=by simp[G]
     have X:((vs.drop off).take 1).headD undef=vs[off]:=by
      rw[List.drop_eq_getElem_cons G];rfl
     intro w1;have hp:=yw (P:=F.P) (w:=w1) (xs:=vs.toArray) (o:=off) H y.1 E;have Z:mkV (shN none) ((vs.drop off).take (Dn none))=vs[off]:=X;rw[Z];simp[Instr.field,run_underlying J,B,q,asAgg,hp]
   .cases y
  .cases j
 .cases j
theorem AHh(h:Inv F S g a w){os}{xs}{es}(j:S.rds xs=some es)(c:Py os xs=true)(B:∀p∈E3 os xs,Mt F.A F.P p.1 p.2) :
 es.length=os.length/\∀(i:Nat) e,es[i]?=some e->∃o,os[i]?=some o/\Rd F S g w e (a.eval o):=by
 induction os generalizing xs es with
 |nil=>
  grind[Py,St.rds]
 |cons o os L=>
  cases xs with
  |nil=>simp[Py]at c|cons x xs=>
   simp only[Py,AF]at c;simp only[St.rds]at j;split at j
   .rename_i e G J q;cases j;obtain⟨H,I⟩:=L q c.2 (λp y=>B p (by simp[E3,y]));refine⟨by simp[H],λi E hi=>?_⟩;cases i with|zero=>simp only[AN,AD]at hi;subst hi;exact⟨o,rfl,Oq h J c.1 (λp y=>B p (by simp[E3,y]))⟩|succ i=>simpa using I i E (by simpa using hi)
   .cases j
theorem yT(h:Inv F S g a w){fn:Nat}{f:CQ}{os:Array Operand}{xs:List Opd}(hd:d<F.N)(q:ev (.No d f xs) S=some S')(ho:Py os.toList xs=true)(hm:∀p∈E3 os.toList xs,Mt F.A F.P p.1 p.2)(hf:Mt F.A F.P fn f) :
 ∃g',Inv F S' g' (a.put (some d) (.func (.func fn) #[] (os.map a.eval))) w:=by
 simp only[ev]at q;split at q
 .rename_i es J;split at q
  .rename_i j;obtain⟨h1,h2⟩:=AHh h J ho hm;simp only[CG,AF,beq_iff_eq]at j;refine Qy h hd q (by simp) ⟨fn,os.map a.eval,rfl,hf,?_,?_⟩
   .simp only[Lc];have:(es.flatMap Ent.cs).length=es.length:=by
     clear h1 h2 J q
     induction es with
     |nil=>rfl|cons e es ih=>
      simp only[CS,List.length_append,AI];rw[ih (λx I=>j x (Af _ I)),(j e (by simp)).1.2];omega
    rw[this,h1];simp
   .intro i l c B hc;have L:∀(es:List Ent),(∀x∈es,x.cs.length=1)->∀(i:Nat) l,(es.flatMap Ent.cs)[i]?=some l->∃e,es[i]?=some e/\e.cs=[l]:=by
     intro es
     induction es with
     |nil=>intro _ i l B;simp at B
     |cons e es ih=>
      intro E i l B;obtain⟨x,I⟩:=List.length_eq_one_iff.1 (E e (by simp));simp only[CS,I,Bm,Be]at B;cases i with
      |zero=>simp only[AN,AD]at B;subst B;exact⟨e,rfl,I⟩|succ i=>simpa using ih (λy hy=>E y (Af _ hy)) i l (by simpa using B)
    obtain⟨e,X,G⟩:=L es (λx I=>(j x I).1.2) i l B;obtain⟨o,Y,vs,q1,q2,q3,q4⟩:=h2 i e X;obtain⟨u,hu,Z⟩:=q4 0 l (by simp[G]);have Q:c=a.eval o:=by
     rw[Array.getElem?_map,AO]at hc;obtain⟨o',H,rfl⟩:=hc;rw[<-Array.getElem?_toList]at H;rw[Y]at H;cases H;rfl
    have hpl:=(j e (Au X)).2 l (by simp[G]);have hsh:a.eval o=u:=by
     have O:vs.length=1:=by rw[q2,G];rfl
     match vs,O with
     | [v0],_=>
      simp only[AN,AD]at hu;subst hu;have:=(j e (Au X)).1.1;rw[q1];cases hse:e.sh<;>simp[hse,ADn]at this;rfl
    rw[Q,hsh];exact AUP hpl Z
  .cases q
 .cases q
theorem RX cs  off k  cells  :
 ((cs.zipIdx k).foldl (λ(xs:Array Value) (p:Value×Nat)=>xs.setIfInBounds (off+p.2) p.1) cells).toList=EC cells.toList (off+k) cs:=by
 induction cs generalizing k cells with
 |nil=>rfl|cons c cs e=>simp only[List.zipIdx_cons,List.foldl_cons,e,EC,HH];rfl
def D7(F:Fix)(S:St)(g:Gh)(w:World)(ls:List AS)(vs:List Value):Prop:=
 vs.length=ls.length/\(∀x,AS.ow x∉ls)/\∀(c:Nat) (l:AS),ls[c]?=some l->∃u,vs[c]?=some u/\B1 F S g w (λ_=>False) l u
theorem D7.set{ls cs}{vs us}{o}(h:D7 F S g w ls vs)(j:D7 F S g w cs us)(c:o+cs.length<=ls.length):D7 F S g w (EC ls o cs) (EC vs o us):=by
 obtain⟨e,G,H⟩:=h;obtain⟨y,B,E⟩:=j;have I:=GO ls o cs c;have q:=GO vs o us (by omega);refine⟨by simp[Oz,e],?_,?_⟩
 .grind[List.getElem?_of_mem,List.mem_of_getElem?]
 grind
theorem ATW ls :IU ls=false->∀l∈ls,l≠.t .top/\l≠.und:=by
 induction ls with
 |nil=>simp|cons x ls j=>
  intro c l h;cases Ae.1 h with
  |inl e=>subst e;constructor<;>(rintro rfl;simp[IU]at c)
  |inr e=>exact j (by unfold IU at c;split at c<;>simp_all) l e
theorem AVb(h:Inv F S g a w){e}(O:Rd F S g w e v)(G:e.cs.length=n)(Q:Gn e.sh n=true)(Z:IU e.cs=false):D7 F S g w e.cs v.cells.toList/\v.cells.size=n:=by
 obtain⟨vs,H,y,I,E⟩:=O;have q:∀v∈vs,v.oneCell'=true:=by
  intro u X;obtain⟨c,J⟩:=B2 X;have B:c<e.cs.length:=by rw[<-y];exact(AP.1 J).1
  obtain⟨u',Y,L⟩:=E c e.cs[c] (by simp[B])
  grind[ATW,List.getElem_mem,ADs]
 have j:=aZ Q (y.trans G) q;rw[H];exact⟨by rw[j];exact⟨y,I,E⟩,by rw[<-Bg,j,y,G]⟩
theorem AKt(h:Inv F S g a w){fs:Array Field}{places:List (Nat×Nat)}(I:∀(i:Nat) f t,fs[i]?=some f->F.P.info? f.type=some t->places[i]?=some (f.offset,t.size)) :
 ∀(ps:List (Nat×Operand)) (qs:List (Nat×Nat×Opd)) (ls ls':List AS) (cells:Array Value),QZ F.P fs ps qs=true->(∀p∈N5 ps qs,Mt F.A F.P p.1 p.2)->M7 S ls qs=some ls'->D7 F S g w ls cells.toList ->
  ∃cells',Instr.fill (places.toArray[·]?) cells (ps.map λp=>(p.1,a.eval p.2))=some cells'/\D7 F S g w ls' cells'.toList
 | [],qs,ls,ls',cells,E,_,c,q=>by
  cases qs<;>simp[QZ]at E;simp only[M7,AD]at c;subst c;exact⟨cells,rfl,q⟩
 |(i,o)::ps,qs,ls,ls',cells,E,hm,c,q=>by
  match qs,E with
  |(off,n,x)::qs,E=>
   simp only[QZ,AF]at E;obtain⟨⟨j,J⟩,L⟩:=E;split at j
   .rename_i f Q;simp only[AF,beq_iff_eq]at j;obtain⟨H,y⟩:=j;split at y
    .rename_i t ht;simp only[beq_iff_eq]at y;simp only[M7]at c;split at c
     .rename_i e he;split at c
      .rename_i hc;obtain⟨c1,c2,c3,c4⟩:=hc;have Y:=Oq h he J (λp X=>hm p (by simp[N5,X]));obtain⟨O,Z⟩:=AVb h Y c1 c2 c3;have B:=q.set O (o:=off) (by omega);have hfold:((a.eval o).cells.zipIdx.foldl (λcs (p:Value×Nat)=>cs.setIfInBounds (off+p.2) p.1) cells).toList=EC cells.toList off (a.eval o).cells.toList:=by
        rw[<-Array.foldl_toList,Array.toList_zipIdx];exact RX _ off 0 cells
       rw[<-hfold]at B;obtain⟨cells',hfill,G⟩:=AKt h I ps qs _ _ _ L (λp X=>hm p (by simp[N5,X])) c B;refine⟨cells',?_,G⟩;simp only[List.map_cons,Instr.fill,BS,I i f t Q ht,H,y];have hle:¬(off+(a.eval o).cells.size>cells.size):=by
        have:=q.1;simp only[Bg]at this;omega
       rw[AT (by simp[Z];omega)];simpa only[BS] using hfill
      .cases c
     .cases c
    .cases y
   .cases j
theorem nA(h:Inv F S g a w){fs:Array Field}{L:List T}{ps:Array (Nat×Operand)}{qs:List (Nat×Nat×Opd)}(X:d<F.N)(c:ev (.build d L qs) S=some S')(hz:bG F.P t L=true)
 (hu:F.P.underlying t=some (.struct fs)) (E:fs.toList.all (λf=>(F.P.info? f.type).isSome)=true) (Y:QZ F.P fs ps.toList qs=true) (hm:∀p∈N5 ps.toList qs,Mt F.A F.P p.1 p.2) :
 ∃v g',(∀w1:World,(Instr.build t (ps.map λ(i,x)=>(i,a.eval x))).run F.P w1=.ok v w1)/\Inv F S' g' (a.put (some d) v) w:=by
 simp only[ev]at c;split at c
 .rename_i ls I;obtain⟨i,v,hi,J,_,_,O⟩:=zeroCells (F:=F) (S:=S) (g:=g) (w:=w) hz;have hplaces:∀(l:List Field),l.all (λf=>(F.P.info? f.type).isSome)=true->∃places,l.mapM (λf=>(F.P.info? f.type).map λi=>(f.offset,i.size))=some places /\
   ∀(i:Nat) f t,l[i]?=some f->F.P.info? f.type=some t->places[i]?=some (f.offset,t.size):=by
   intro l
   induction l with
   |nil=>intro _;exact⟨[],rfl,by simp⟩
   |cons f l ih=>
    intro H;simp only[List.all_cons,AF]at H;obtain⟨t,G⟩:=Br.1 H.1;obtain⟨pl,q,y⟩:=ih H.2;refine⟨(f.offset,t.size)::pl,by simp[List.mapM_cons,G,q],?_⟩;intro i Q t' hi B;cases i with
    |zero=>simp only[AN,AD]at hi;subst hi;rw[G]at B;cases B;rfl
    |succ i=>simpa using y i Q t' (by simpa using hi) B
  obtain⟨places,q,y⟩:=hplaces fs.toList E;obtain⟨cells',hfill,j⟩:=AKt h (fs:=fs) (places:=places) (λi f t hi G=>y i f t (by simpa using hi) G) ps.toList qs (L.map .t) ls v.cells Y hm I ⟨O.1,by simp,O.2.1⟩;obtain⟨g',Z⟩:=h.EY (e:=⟨.agg,ls⟩) c X (Cells.free j.1 j.2.2 j.2.1);refine⟨_,g',λw1=>run_build w1 t _ cells' ?_,by simpa[mkV] using Z⟩;simp only[Program.built,hi,hu,J,q];rw[<-hfill];congr 1;simp
 .cases c
theorem Inv.newRow(h:Inv F S g a w){x}{S0}(O:d<F.N)(Y:S.EY d ⟨.one,[.ow x]⟩=some S')(Z:Still w w')(hw:∀b,b<w.heap.size->w'.heap[b]?=w.heap[b]?)(X:Own w' x v S0)
(hS:∀b,S0 b->w.heap.size<=b\/((¬F.K b)/\(∀r,CP S r->¬g.fp r b)/\∀id,(get S.bx id).isSome->b≠g.β id)):∃g',Inv F S' g' (a.put (some d) v) w':=by
 have L:=h.grow Z hw;refine L.EY (vs:=[v]) (nf:=λ_=>S0) Y O ⟨rfl,?_,?_⟩
 .intro c l B;cases c with|zero=>simp only[AN,AD]at B;subst B;exact⟨v,rfl,X⟩|succ c=>simp at B
 .intro c y hy;refine⟨λb j hK=>?_,λr J b j I=>?_,λid q j=>?_,λc' y' hy' Q=>?_⟩
  .rcases hS b j with j|j
   .exact absurd (BY (h.rlt b hK) h.size) (by omega)
   .exact j.1 hK
  .rcases hS b j with e|e
   .obtain⟨x,hx⟩:=J;obtain⟨u,_,H⟩:=h.C0 r _ hx;exact absurd (Own.lt H b I) (by omega)
   .exact e.2.1 r J I
  .rcases hS _ j with e|e
   .obtain⟨ls,G⟩:=Br.1 q;obtain⟨⟨E,hE⟩,_⟩:=h.bxs id ls G;exact absurd (BB.1 hE).1 (by omega)
   .exact e.2.2 id q rfl
  .grind
theorem AED{e:Nat}{xs}{blk off cap:Nat}{arr:Array Value}{E:TypeId}(y:Fb w blk arr E e)(h:xs.length<=cap)(q:∀row∈xs,row.length=e)(c:off+cap*e<=arr.size)
(B:∀i j x,at2 xs i j=some x->∃v,arr[off+i*e+j]?=some v/\Own w x v λ_=>False):Own w (.sl e xs) (.slice (some ⟨blk,off,none⟩) xs.length cap) (λb=>b=blk):=by
 refine .sl (λi j=>(arr[off+i*e+j]?).getD undef) (λ_ _ _=>False) rfl h q y c ?_ ?_ (by simp) (by simp) (by simp)
 .grind
 grind
theorem ee{c:List T}{i j:Nat}{x:T}(h:at2 (rowsOf n c) i j=some x):i<n/\c[j]?=some x:=by
 grind[at2,rowsOf]
theorem VL{z}{i j}(c:z[j]?=some v)(hi:i<n):(madeCells z (n*z.size))[i*z.size+j]?=some v:=by
 obtain⟨e,q⟩:=BB.1 c;have h:i*z.size+j<n*z.size:=by
  have:(i+1)*z.size<=n*z.size:=An _ hi
  grind[Nat.add_mul]
 grind[Nat.add_comm,Nat.add_mul_mod_self_right,Nat.mod_eq_of_lt,madeCells,Option.some.injEq]
theorem AMA{x}(h:RN v x=true):Sa x=false:=by
 unfold RN at h;split at h
 .rename_i y _;cases x<;>first|rfl|(cases y<;>simp[AXH]at h)
 .cases h
theorem AFR{vs}{j}(h:ZI vs j=true):vs.length=j.length/\∀(c:Nat) x,j[c]?=some x->∃v,vs[c]?=some v/\Own w x v λ_=>False:=by
 induction vs generalizing j with
 |nil=>cases j<;>simp_all[ZI]
 |cons v vs E=>
  cases j with
  |nil=>simp[ZI]at h|cons z j=>
   simp only[ZI,AF,DA]at h;obtain⟨y,B⟩:=E h.2;refine⟨by simp[y],λc x q=>?_⟩;cases c with
   |zero=>
    simp only[AN,AD]at q;subst q;refine⟨v,rfl,?_⟩;rcases h.1 with e|e
    .exact .sc (Wc e) ((Wc e).one (AMA e)) (by simp)
    .unfold ALL at e;split at e
     .exact .nl (by simp)
     .cases e
   |succ c=>simpa using B c x (by simpa using q)
def AVk(P:Program)(t:TypeId):Array Value×Unit:=(match P.info? t with|some i=>(match i.zero with|some v=>v.cells|none=>#[])|none=>#[],())
theorem Yl{e}(h:AEc P t e=true):∃i v,P.info? t=some i/\i.zero=some v/\i.size=e.length/\v.cells.size=e.length /\
 ∀(c:Nat) x,e[c]?=some x->∃u,v.cells[c]?=some u/\Own w x u λ_=>False:=by
 unfold AEc at h;split at h
 .rename_i i hi;simp only[AF,beq_iff_eq]at h;obtain⟨j,q⟩:=h;split at j
  .rename_i v E;obtain⟨y,B⟩:=AFR (w:=w) j
   grind
  .cases j
 .cases h
theorem yU(h:Inv F S g a w){X:List T}{on oc:Operand}{n c:Opd}(hd:d<F.N)(e:ev (.Sg d X n c) S=some S')(he:F8 F.P t X.length=true)(hu:F.P.underlying t=some (.slice el))
 (hz:AEc F.P el X=true) (hon:CH on n=true) (hoc:CH oc c=true) (hmn:∀p∈CI on n,Mt F.A F.P p.1 p.2) (hmc:∀p∈CI oc c,Mt F.A F.P p.1 p.2) :
 ∃v w' g',(Instr.makeSlice t (a.eval on) (a.eval oc)).run F.P w=.ok v w'/\Inv F S' g' (a.put (some d) v) w'/\∀b,b<w.heap.size->w'.heap[b]?=w.heap[b]?:=by
 simp only[ev]at e;split at e
 .rename_i k q hn hc;split at e
  .rename_i hcond;obtain⟨rfl,h0,h1⟩:=hcond;obtain⟨kn,Z⟩:=Tq h hn hon hmn;obtain⟨kc,Y⟩:=Tq h hc hoc hmc;obtain⟨el',ti,H,B,G,hby,hpos⟩:=G9 he;rw[hu]at H;cases H;obtain⟨i,z,hi,O,his,L,I⟩:=Yl (w:=World.push w (.cells ((λz=>madeCells z (q.toNat*ti.size)) (AVk F.P el).1) el (0,0))) hz;rw[B]at hi;cases hi;have J:(AVk F.P el).1=z.cells:=by simp[AVk,B,O]
   rw[J]at I;rw[Z,Y];have hlim:q<=268435456:=h1;have y:=run_make (P:=F.P) w t el ti z hu B O kn kc q q h0 (Int.le_refl _) (by
    have:(ti.bytes:Int)*q<=65536*268435456:=Int.mul_le_mul (by omega) hlim h0 (by omega);omega) (by omega)
   have hw':(w.alloc (.cells (madeCells z.cells (q.toNat*ti.size)) el))=World.push w (.cells (madeCells z.cells (q.toNat*ti.size)) el (0,0)):=rfl;rw[hw']at y;obtain⟨g',hg⟩:=h.newRow (w':=World.push w (.cells (madeCells z.cells (q.toNat*ti.size)) el (0,0))) (v:=.slice (some ⟨w.heap.size,0,none⟩) (rowsOf q.toNat X).length q.toNat) (S0:=λb=>b=w.heap.size) hd e
    Still.push (λb Q=>FG Q)
    (AED (arr:=madeCells z.cells (q.toNat*ti.size)) (E:=el) (.of LR) (by simp[rowsOf]) (by intro row hr;simp[rowsOf]at hr;rw[hr.2]) (by simp[madeCells,G]) (by
     intro i j x hx;obtain⟨hi,hj⟩:=ee hx;obtain⟨v,hv',hs⟩:=I j x hj;refine⟨v,?_,hs⟩;have:=VL (n:=q.toNat) hv' hi;rw[L]at this;rw[G,Ar];exact this))
    (λb Q=>.inl (by omega))
   refine⟨_,_,g',y,?_,λb Q=>FG Q⟩;simpa[rowsOf] using hg
  .cases e
 .cases e
theorem pe{s:List UInt8}{i j:Nat}{x:T}(h:at2 (Ki s) i j=some x):∃b,s[i]?=some b/\j=0/\x=.int .u8 b.toNat:=by
 grind[at2,Ki]
theorem yQ(h:Inv F S g a w){s:TypeId}{o:Operand}{x:Opd}(hd:d<F.N)(y:ev (.Nf d x) S=some S')(ho:CH o x=true)(hm:∀p∈CI o x,Mt F.A F.P p.1 p.2)(J:isStr F.P s=true)(H:Rq F.P t=true) :
 ∃v w' g',(convert s t (a.eval o)).run F.P w=.ok v w'/\Inv F S' g' (a.put (some d) v) w'/\∀b,b<w.heap.size->w'.heap[b]?=w.heap[b]?:=by
 simp only[ev]at y;split at y
 .rename_i str G;have hv:a.eval o=.string ⟨str.toArray⟩:=Q1 h G ho hm;unfold isStr at J;split at J
  .rename_i Q;unfold Rq at H;split at H
   .rename_i el X;simp only[AF]at H;obtain⟨c,_⟩:=H;unfold isInt at c;split at c
    .rename_i k O;simp only[decide_eq_true_eq]at c;subst c;have B:=Lib.run_convert_string_bytes (P:=F.P) w s t el ⟨str.toArray⟩ Q X O;have L:(⟨str.toArray⟩:ByteArray).size=str.length:=by simp[ByteArray.size]
     have hge:=grownCap_ge w (⟨str.toArray⟩:ByteArray).size 0 el;have Y:(Lib.bytesCells w el ⟨str.toArray⟩).size=grownCap w (⟨str.toArray⟩:ByteArray).size 0 el:=by
      simp only[Lib.bytesCells,Array.size_append,Lc,Array.size_replicate];rw[show (⟨str.toArray⟩:ByteArray).data.size=(⟨str.toArray⟩:ByteArray).size from rfl];generalize (⟨str.toArray⟩:ByteArray).size=n at *;omega
     obtain⟨g',Z⟩:=h.newRow (w':=Lib.bytesWorld w el ⟨str.toArray⟩) (v:=.slice (some ⟨w.heap.size,0,none⟩) (Ki str).length (grownCap w (⟨str.toArray⟩:ByteArray).size 0 el)) (S0:=λb=>b=w.heap.size) hd y
      (.old (by rw[Lib.bytesWorld_size];omega) rfl rfl (λb q=>Lib.bytesWorld_at_old w el _ b q)) (λb q=>Lib.bytesWorld_at_old w el _ b q)
      (AED (e:=1) (arr:=Lib.bytesCells w el ⟨str.toArray⟩) (E:=el) ⟨_,Lib.bytesWorld_at_new w el ⟨str.toArray⟩,.inr ⟨Ab _,rfl⟩⟩ (by simp[Ki];omega)
       (by intro row hr;simp only[Ki,Ej]at hr;obtain⟨_,_,rfl⟩:=hr;rfl) (by omega) (by
        intro i j x hx;obtain⟨b,q,rfl,rfl⟩:=pe hx;refine⟨.int .u8 b.toNat,?_,.sc rfl rfl (by simp)⟩;have I:i<str.length:=(AP.1 q).1;simp only[Ar,Nat.mul_one,C9,Lib.bytesCells];rw[Array.getElem?_append_left (by simpa using I)];simp[q]))
      (λb q=>.inl (by omega))
     refine⟨_,_,g',by rw[hv];exact B,?_,λb q=>Lib.bytesWorld_at_old w el _ b q⟩;have:(Ki str).length=(⟨str.toArray⟩:ByteArray).size:=by simp[Ki,L]
     rw[this]at Z;exact Z
    .cases c
   .cases H
  .cases J
 .cases y
end
end Lv
