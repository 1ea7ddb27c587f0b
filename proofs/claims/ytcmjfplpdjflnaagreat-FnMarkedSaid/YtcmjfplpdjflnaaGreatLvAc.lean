/- The light machine is right about the program's code. -/
import GoSem.Core.Value
import GoSem.Core.Ast
import GoSem.Core.View
import Derived.Calls
import Derived.Laws.CopyRow
import Derived.Laws.IdiomCopy
import GoSem.Dispatch
import Derived.Orders
set_option linter.unusedVariables false
set_option linter.unusedSimpArgs false
set_option linter.unusedSectionVars false
open Array renaming getD_eq_getD_getElem?->Eh,getElem?_eq_some_iff->A1,getElem?_modify->Fx,getElem?_push->GY
open Bool renaming and_eq_false_iff->IJ,and_eq_true->AF,and_true->CS,or_eq_true->Cj
open List renaming append_assoc->CC,getElem?_append->Ic,getElem?_cons_zero->AM,getElem?_eq_some_iff->AP,getElem?_of_mem->Bh,getElem?_set->Dz,length_cons->AH,length_nil->AN,mem_cons_of_mem->Ax,mem_of_getElem?->Ap
open Nat renaming add_right_cancel_iff->HO,add_zero->C3,le_refl->Ad,lt_irrefl->Iy,lt_of_lt_of_le->BR,ne_of_lt->Mr
open Option renaming isSome_iff_exists->Bj,isSome_map->Jl,map_eq_some_iff->AO
open Option.some renaming injEq->AD
open Prod.mk renaming injEq->A0
open Go.Region renaming ready->Bc
@[reducible] def AA.{u} (α:Type u):=Option α
namespace Lv
open Go (IntKind BinOp UnOp)
theorem AX{c:Prop}{h:Decidable c}(j:c){α:Sort _}{t e:α}:(ite c t e)=t:=if_pos j
theorem AU{c:Prop}{h:Decidable c}(j:¬c){α:Sort _}{t e:α}:(ite c t e)=e:=if_neg j
inductive T where
 |top|un|int(k:IntKind)(n:Int)|bool(b:Bool)|str(s:List UInt8)|nil|np|sl(e:Nat)(xs:List (List T))|mp(ks:List (Int×Int))
inductive CD where
 |tmp(s c:Nat)|cell(b c:Nat)
 deriving DecidableEq
inductive Src where
 |own(r:CD)(p:Option (Nat×Nat))|old(k:Nat)
 deriving DecidableEq
inductive Md where
 |v|p|b|o|m
 deriving DecidableEq
inductive Sh where
 |one|agg|tup(ns:List (Option Nat))|ptr(k:Nat)|vw(k:Nat)
inductive Kd where
 |i|b|s
 deriving DecidableEq
inductive Cls where
 |num|bool|sl|agg(ks:List Kd)
 deriving DecidableEq
mutual
inductive Opd where
 |tmp(t:Nat)|k(x:T)|fn(f:CI)
inductive XOp where
 |mv(d:Nat)(x:Opd)|as(d:Nat)(x:Opd)|pick(d:Nat)(c a b:Opd)|alloc(d:Nat)(zs:List T)|box(d:Nat)(x:Opd)|build(d:Nat)(zs:List T)(parts:List (Nat×Nat×Opd))|CB(d:Nat)(n:Nat)(zs:List T)(parts:List (Nat×Opd))|ld(d:Nat)(n:Option Nat)(x:Opd)|st(n:Nat)(x v:Opd)|chk(d:Nat)(x:Opd)|bin(d:Nat)(c:Cls)(op:BinOp)(x y:Opd)|un(d:Nat)(op:UnOp)(x:Opd)|cvI(d:Nat)(k:IntKind)(x:Opd)|M9(d:Nat)(x:Opd)|O3(d:Nat)(x:Opd)|NG(d:Nat)(f:CI)(caps:List Opd)|R0(d:Nat)(zs:List T)(n c:Opd)|sub(d:Nat)(e:Nat)(x:Opd)(lo hi:Option Opd)|Vf(d:Nat)(x:Opd)(lo hi:Option Opd)|fa(d:Nat)(off:Nat)(x:Opd)|fld(d:Nat)(off:Nat)(n:Option Nat)(x:Opd)|ia(d:Nat)(e:Nat)(x i:Opd)|ix(d:Nat)(x i:Opd)|ext(d:Nat)(x:Opd)(i:Nat)|call(d:Nat)(f:CI)(args:List Opd)|D5(d:Nat)(f:Opd)(ms:List Md)(args:List Opd)|len(d:Nat)(x:Opd)|lens(d:Nat)(x:Opd)|app(d:Nat)(e:Nat)(fl:Bool)(x y:Opd)|SA(d:Nat)(zs:List T)(x n:Opd)|cpy(d:Nat)(e:Nat)(x y:Opd)|mm(d:Nat)(isMax:Bool)(x y:Opd)|mmk(d:Nat)|UK(d:Nat)(x k:Opd)|TF(x k v:Opd)|UL(d:Nat)(x:Opd)|bad(d:Option Nat)|drop(ds:List Nat)|VO(ns:List (CD×Nat))
inductive Rv where
 |nil|op(i:Nat)(g:Option (Nat×Bool))(sf:List Nat)(o:XOp)(rest:Rv)|dr(ds:List Nat)(rest:Rv)|nl(ns:List (CD×Nat))(rest:Rv)|both(a b:Rv)
inductive Ng where
 |skip|region(ops:List (Option (Nat×Bool)×XOp))(FV:List Nat)|U5(r:Rv)(FV:List Nat)|seq(a b:Ng)|cond(c:Nat)(kt ke:List Nat)(t e:Ng)|block(id:Nat)(b:Ng)|loop(b:Ng)|exit(id:Nat)|ret|scope(b:Ng)|or(a b:Ng)|dead
inductive HU where
 |tmp(t:Nat)|cell(t:Nat)(n:Option Nat)|bx(t:Nat)|vw(t k:Nat)|un(t n:Nat)
inductive CI where
 |mk(ms:List Md)(rs:List HU)(body:Ng)|Mj(id:Nat)(ms:List Md)
end
end Lv
namespace Lv
open Go (IntKind BinOp UnOp)
inductive AT where
 |t(x:T)|und|ow(x:T)|al(r:CD)(sub:Option (Nat×Nat))|ep(r:CD)(i j:Nat)|vw(s:Src)(e:Nat)(xs:List (List T))|vp(s:Src)(cs:List T)|bp(id off:Nat)|fn(f:CI)(caps:List AT)
structure Ent where
 sh:Sh
 cs:List AT
structure St where
 tm:List (Nat×Ent)
 bx:List (Nat×List AT)
 pin:List Nat:=[]
inductive V where
 |v(sh:Sh)(cs:List T)|f(xf:CI)(caps:List V)|p(cs:List T)|b(cs:List T)|o(sh:Sh)(cs:List T)|m(sh:Sh)(cs:List T)
abbrev Rel:=CI->List V->Sh->List T->List (List T)->Prop
def get{α:Type}:List (Nat×α)->Nat->Option α| [],_=>none|(k,a)::r,s=>if k=s then some a else get r s
def put{α:Type}:List (Nat×α)->Nat->α->List (Nat×α)| [],s,a=>[(s,a)]|(k,b)::r,s,a=>if s=k then (s,a)::r else if s<k then (s,a)::(k,b)::r else (k,b)::put r s a
def Gg{α:Type}(ks:List Nat):List (Nat×α)->List (Nat×α)| []=>[]|(k,b)::r=>if k∈ks then (k,b)::Gg ks r else Gg ks r
def AT.Bz:AT->Option CD|.al r _|.ep r _ _|.vw (.own r _) _ _|.vp (.own r _) _=>some r|_=>none
def AT.Lw:AT->Option Nat|.bp id _=>some id|.al (.cell id _) _|.ep (.cell id _) _ _|.vw (.own (.cell id _) _) _ _|.vp (.own (.cell id _) _) _=>some id|_=>none
def AT.plain:AT->Bool|.t _|.und|.vw (.old _) _ _|.vp (.old _) _|.bp _ _=>true|_=>false
def ES(q:AT->Bool):List AT->List AT| []=>[]|l::ls=>(if q l then .t .top else l)::ES q ls
def LJ(q:AT->Bool):List (Nat×Ent)->List (Nat×Ent)| []=>[]|(k,e)::r=>(k,⟨e.sh,ES q e.cs⟩)::LJ q r
def LI(q:AT->Bool):List (Nat×List AT)->List (Nat×List AT)| []=>[]|(k,e)::r=>(k,ES q e)::LI q r
def St.kill(S:St)(q:AT->Bool):St:={ S with tm:=LJ q S.tm,bx:=LI q S.bx}
def LZ(r:CD)(l:AT):Bool:=l.Bz=some r
def FW(r:CD):AT->Bool|.vw (.own r' _) _ _|.vp (.own r' _) _=>r'=r|_=>false
def E1(d:Nat)(l:AT):Bool:=match l.Bz with|some (.tmp s _)=>s=d|_=>false
def Fp(d:Nat):AT->Bool|.fn _ caps=>caps.any fun l=>decide (l.Lw=some d)|l=>decide (l.Lw=some d)
def LY(ks:List Nat):AT->Bool
 |.fn _ caps=>caps.any fun l=>match l.Lw with|some d=>decide (d∉ks)|none=>false
 |l=>match l.Lw with|some d=>decide (d∉ks)|none=>false
def Ij(ks:List Nat)(l:AT):Bool:=
 (match l.Bz with|some (.tmp s _)=>decide (s∉ks)|_=>false)||LY ks l
def Jo{α:Type}(ks:List Nat):List (Nat×α)->List (Nat×α)| []=>[]|(k,b)::r=>if k∈ks then Jo ks r else (k,b)::Jo ks r
def ZR(ks:List Nat)(l:AT):Bool:=match l.Bz with|some (.tmp s _)=>decide (s∈ks)|_=>false
def St.IS(S:St)(ks:List Nat):St:={ S with tm:=LJ (ZR ks) (Jo ks S.tm),bx:=LI (ZR ks) S.bx}
def St.clean(S:St)(ks:List Nat):St:={ S with tm:=LJ (Ij ks) (Gg ks S.tm),bx:=LI (Ij ks) (Gg ks S.bx)}
def St.at(S:St):CD->Option AT
 |.tmp s c=>match get S.tm s with|some e=>e.cs[c]?|none=>none
 |.cell b c=>match get S.bx b with|some ls=>ls[c]?|none=>none
def St.Bi(S:St)(r:CD)(l:AT):St:=
 match r with
 |.tmp s c=>match get S.tm s with|some e=>{ S with tm:=put S.tm s ⟨e.sh,e.cs.set c l⟩}|none=>S
 |.cell b c=>match get S.bx b with|some ls=>{ S with bx:=put S.bx b (ls.set c l)}|none=>S
def content:T->Option (List (List T))|.nil=>some []|.sl _ xs=>some xs|_=>none
def Jg(sub:Option (Nat×Nat))(xs:List (List T)):List (List T):=
 match sub with
 |none=>xs|some (lo,n)=>(xs.drop lo).take n
def nU(sub:Option (Nat×Nat)):T->T|.sl e xs=>.sl e (Jg sub xs)|x=>x
def St.elems(S:St):AT->Option (List (List T))
 |.al r sub=>match S.at r with|some (.ow x)=>(content x).map (Jg sub)|_=>none
 |.vw _ _ xs=>some xs|.t .nil=>some []|_=>none
def AT.ali(s c:Nat):AT->AT|.ow _=>.al (.tmp s c) none|l=>l
def R9(s:Nat):Nat->List AT->List AT|_,[]=>[]|c,l::ls=>l.ali s c::R9 s (c+1) ls
def qN:T->AT|.sl e xs=>.vw (.old 0) e xs|x=>.t x
def St.rd(S:St):Opd->Option Ent
 |.tmp s=>match get S.tm s with|some e=>some ⟨e.sh,R9 s 0 e.cs⟩|none=>none
 |.k x=>some ⟨.one,[qN x]⟩|.fn f=>some ⟨.one,[.fn f []]⟩
def St.rds(S:St):List Opd->Option (List Ent)
 | []=>some []|x::xs=>match S.rd x,S.rds xs with|some e,some es=>some (e::es)|_,_=>none
def St.D9(S:St)(d:Nat)(e:Ent):Option St:=
 if d∈S.pin then none else match get S.tm d with
  |none=>some { S with tm:=put S.tm d e}
  |some _=>some { S with tm:=put (LJ (E1 d) S.tm) d ⟨e.sh,ES (E1 d) e.cs⟩,bx:=LI (E1 d) S.bx}
def names:AT->List Nat
 |.bp id _=>[id]|.fn _ caps=>caps.filterMap fun l=>match l with|.bp id _=>some id|_=>none
 |_=>[]
def TR(l l':AT):Bool:=
 (match l.Bz with|some r=>decide (l'.Bz=some r)|none=>false)||(names l).any (fun id=>Fp id l')||(names l').any (fun id=>Fp id l)
def RN(l l':AT):Bool:=
 (match l.Bz with|some r=>decide (l'.Bz=some r)|none=>false)||(names l).any (fun id=>Fp id l')
def vS:AT->Bool|.al _ _=>true|_=>false
def OK:List AT->Bool| []=>true|l::ls=>(ls.all fun l'=>!((vS l||vS l')&&decide (l.Bz=l'.Bz)))&&OK ls
def St.out(S:St)(r:CD):St:=(S.Bi r (.t .top)).kill (LZ r)
def St.nl0(S:St)(r:CD)(e:Nat):AT:=match r with|.cell id _=>(if id∈S.pin then .vw (.old id) e [] else .ow (.sl e []))|.tmp _ _=>.ow (.sl e [])
def St.turn(S:St)(r:CD):St:=match S.at r with
 |some (.al r' none)=>match S.at r' with|some (.ow x)=>((S.out r').Bi r (.ow x)).Bi r' (.al r none)|_=>S
 |_=>S
def St.Zj(S:St)(r:CD)(e:Nat):St:=if e=0 then S.turn r else match S.at r with|some (.t .nil)=>S.Bi r (S.nl0 r e)|_=>S
def St.RA(S:St):List (CD×Nat)->St| []=>S|(r,e)::ns=>St.RA (S.Zj r e) ns
def Jw:St->List AT->Option (St×List AT)
 |S,[]=>some (S,[])|S,l::ls=>match l with
  |.al r sub=>match S.at r with
   |some (.ow x)=>match Jw (S.out r) ls with|some (S',ls')=>some (S',.ow (nU sub x)::ls')|none=>none
   |_=>none
  |l=>match Jw S ls with|some (S',ls')=>some (S',l::ls')|none=>none
def LM(S:St)(ls:List AT):Option (St×List AT):=if OK ls=true then Jw S ls else none
def sG(S:St)(x:Opd)(ls:List AT):Option (St×List AT):=match x with|.tmp s=>if s∈S.pin then some (S,ls) else LM S ls|_=>LM S ls
def Ro:T->Bool|.top=>true|_=>false
def ZV:T->Bool|.top=>true|.un=>true|_=>false
def at2(xs:List (List T))(i j:Nat):Option T:=match xs[i]? with|some row=>row[j]?|none=>none
def Src.up:Src->Src|.own r _=>.own r none|s=>s
def JA(rows:List (List T))(i j:Nat)(x:T):List (List T):=rows.set i ((rows.getD i []).set j x)
def St.pull(S:St)(r:CD)(i j:Nat):Option St:=
 match S.at r with
 |some (.ow (.sl e rows))=>some ((S.Bi r (.ow (.sl e (JA rows i j .top)))).kill (FW r))|_=>none
def onR(r:CD):List AT->Bool| []=>false|l::ls=>decide (l.Bz=some r)||onR r ls
def Di:St->List AT->Option (St×List T)
 |S,[]=>some (S,[])|S,l::ls=>match l with
  |.t x=>if Ro x=true then none else match Di S ls with|some (S',cs)=>some (S',x::cs)|none=>none
  |.al r sub=>match S.at r with
   |some (.ow x)=>match Di (S.out r) ls with|some (S',cs)=>some (S',nU sub x::cs)|none=>none
   |_=>none
  |.vw (.own r p) e xs=>match p with
   |none=>match S.at r with
    |some (.ow _)=>match Di (S.out r) ls with|some (S',cs)=>some (S',.sl e xs::cs)|none=>none
    |_=>none
   |some (i,j)=>if onR r ls=true then none else match S.pull r i j with
    |some S1=>match Di S1 ls with|some (S',cs)=>some (S',.sl e xs::cs)|none=>none
    |none=>none
  |_=>none
def St.HR(S:St):AT->Option T
 |.t x=>some x|.al r sub=>match S.at r with|some (.ow x)=>some (nU sub x)|_=>none
 |.vw _ e xs=>some (.sl e xs)|.ow x=>some x|_=>none
def St.HN(S:St):List AT->Option (List T)
 | []=>some []|l::ls=>match S.HR l,S.HN ls with|some x,some xs=>some (x::xs)|_,_=>none
def PY(k:Nat):AT->Option T|.t x=>some x|.vw (.old k') e xs=>if k'=k then some (.sl e xs) else none|_=>none
def Fl(k:Nat):List AT->Option (List T)
 | []=>some []|l::ls=>match PY k l,Fl k ls with|some x,some xs=>some (x::xs)|_,_=>none
def DW:List AT->Nat| []=>0|.vw (.old k) _ _::_=>k|_::ls=>DW ls
def EN(k:Nat):T->AT|.sl e xs=>.vw (.old k) e xs|.mp _=>.t .top|x=>.t x
def Jt:T->AT|.sl e xs=>.ow (.sl e xs)|.mp ks=>.ow (.mp ks)|.nil=>.ow .nil|x=>.t x
def Kq(s:Src):T->AT|.sl e xs=>.vw s e xs|.mp _=>.t .top|x=>.t x
def On:List AT->Bool| []=>true|l::ls=>l.Bz.isNone&&On ls
def AJ3(S:St):AT->Option V
 |.t x=>some (.v .one [x])|.vw (.old _) e xs=>some (.v .one [.sl e xs])|.bp id off=>match get S.bx id with|some ls=>if On ls=true then (S.HN (ls.drop off)).map .p else none|none=>none
 |.vp (.old _) cs=>some (.p cs)|_=>none
def dR(S:St):List AT->Option (List V)
 | []=>some []|l::ls=>match AJ3 S l,dR S ls with|some x,some xs=>some (x::xs)|_,_=>none
def GJ:Sh->Nat->Bool|.one,n=>n==1|.agg,_=>true|_,_=>false
def RF:AT->Bool|.t _|.al _ none|.vw (.own _ (some _)) _ _=>true|_=>false
def HP:St->List AT->List T->Option St
 |S,[],[]=>some S|S,l::ls,o::os=>match l with
  |.al r none=>HP (S.Bi r (.ow o)) ls os|.vw (.own r (some (i,j))) _ _=>match S.at r with|some (.ow (.sl e rows))=>HP ((S.Bi r (.ow (.sl e (JA rows i j o)))).kill (FW r)) ls os|_=>none
  |.t _=>HP S ls os|_=>none
 |_,_,_=>none
def SB(S:St)(md:Md)(e:Ent):Option V:=
 match md with
 |.v=>match e with
  |⟨.one,[.fn f caps]⟩=>match dR S caps with|some cs=>some (.f f cs)|none=>none
  |e=>match S.HN e.cs with|some cs=>some (.v e.sh cs)|none=>none
 |.p=>match e with
  |⟨.one,[.bp id off]⟩=>match get S.bx id with
   |some ls=>if On ls=true then match S.HN (ls.drop off) with|some cs=>some (.p cs)|none=>none else none
   |none=>none
  |⟨.one,[.vp _ cs]⟩=>some (.p cs)|_=>none
 |.b=>match e with
  |⟨.one,[.bp id 0]⟩=>match get S.bx id with
   |some ls=>match Fl (DW ls) ls with|some cs=>some (.b cs)|none=>none
   |none=>none
  |_=>none
 |_=>none
def Md.E2:Md->Bool|.o|.m=>true|_=>false
def HQ:List Md->List Ent->List AT|md::ms,e::es=>(if md.E2=true then e.cs else [])++HQ ms es|_,_=>[]
def I8(S:St):List Md->List Ent->List T->Option (List V)
 | [],[],_=>some []|md::ms,e::es,cs=>match md with
  |.o=>match I8 S ms es (cs.drop e.cs.length) with|some vs=>some (.o e.sh (cs.take e.cs.length)::vs)|none=>none
  |.m=>if e.cs.all RF=true/\GJ e.sh e.cs.length=true then match I8 S ms es (cs.drop e.cs.length) with|some vs=>some (.m e.sh (cs.take e.cs.length)::vs)|none=>none else none
  |md=>match SB S md e,I8 S ms es cs with|some v,some vs=>some (v::vs)|_,_=>none
 |_,_,_=>none
def Ej:St->List Md->List Ent->St
 |S,md::ms,e::es=>match md with
  |.b=>match e with
   |⟨.one,[.bp id 0]⟩=>match get S.bx id with
    |some ls=>Ej { S with bx:=put S.bx id (ls.map fun _=>.t .top)} ms es
    |none=>Ej S ms es
   |_=>Ej S ms es
  |_=>Ej S ms es
 |S,_,_=>S
def Vn(S:St)(ms:List Md)(es:List Ent):Option (St×List V):=
 match Di S (HQ ms es) with
 |some (S1,cs)=>match I8 S ms es cs with|some vs=>some (Ej S1 ms es,vs)|none=>none
 |none=>none
def Fk(S0:St):St->List Md->List Ent->List (List T)->Option St
 |S,[],_,[]=>some S|S,md::ms,e::es,outs=>match md with
  |.b=>match e,outs with
   |⟨.one,[.bp id 0]⟩,o::outs=>match get S0.bx id,get S.bx id with
    |some ls,some ls1=>if o.length=ls1.length then Fk S0 { S with bx:=put S.bx id (o.map (EN (DW ls)))} ms es outs else none
    |_,_=>none
   |_,_=>none
  |.m=>match outs with
   |o::outs=>match HP S e.cs o with|some S'=>Fk S0 S' ms es outs|none=>none
   |_=>none
  |_=>Fk S0 S ms es outs
 |_,_,_,_=>none
def Md.writes:Md->Bool|.v|.p=>false|_=>true
def shares(e e':Ent):Bool:=e.cs.any fun l=>e'.cs.any fun l'=>TR l l'
def Pd:List Ent->List Md->List Ent->Bool|prev,md::ms,e::es=>(md.writes&&(prev.any (shares e)||es.any (shares e)))||Pd (e::prev) ms es|_,_,_=>false
def Ef:CI->List Md|.mk ms _ _=>ms|.Mj _ ms=>ms
def AYQ(sh:Sh)(cs:List T):Ent:=⟨sh,cs.map Jt⟩
def lim:Nat:=268435456
def AF3:Option Ent->Option T|some ⟨.one,[.t x]⟩=>some x|_=>none
def St.sc(S:St)(x:Opd):Option T:=AF3 (S.rd x)
def St.nat(S:St)(x:Opd):Option Int:=match S.sc x with|some (.int _ n)=>some n|_=>none
def St.ARh(S:St)(d:Int):Option Opd->Option Int|none=>some d|some o=>S.nat o
def St.one(S:St)(x:Opd):Option AT:=match S.rd x with|some ⟨.one,[l]⟩=>some l|_=>none
def OI:Nat:=4611686018427387904
def eqT:Kd->T->T->Option Bool|.i,.int k a,.int k' b=>if k=k' then some (a==b) else none|.b,.bool a,.bool b=>some (a==b)|.s,.str a,.str b=>some (a==b)|_,_,_=>none
def Rx:List Kd->List T->List T->Option Bool
 | [],[],[]=>some true|k::ks,a::as,b::bs=>match eqT k a b,Rx ks as bs with|some x,some y=>some (x&&y)|_,_=>none
 |_,_,_=>none
def Vh:List AT->Option (List T)| []=>some []|.t x::ls=>(Vh ls).map (x::·)|_=>none
def az(op:BinOp)(k:IntKind)(a b:Int):Option T:=
 match op with
 |.add=>some (.int k (k.wrap (a+b)))|.sub=>some (.int k (k.wrap (a-b)))|.mul=>some (.int k (k.wrap (a*b)))|.quo=>if b=0 then none else some (.int k (k.wrap (a.tdiv b)))|.rem=>if b=0 then none else some (.int k (a.tmod b))|.and=>some (.int k (k.wrap (BitVec.ofInt k.bits a &&& BitVec.ofInt k.bits b).toNat))|.or=>some (.int k (k.wrap (BitVec.ofInt k.bits a |||BitVec.ofInt k.bits b).toNat))|.xor=>some (.int k (k.wrap (BitVec.ofInt k.bits a ^^^ BitVec.ofInt k.bits b).toNat))|.eql=>some (.bool (a==b))|.neq=>some (.bool (a != b))|.lss=>some (.bool (decide (a<b)))|.leq=>some (.bool (decide (a<=b)))|.gtr=>some (.bool (decide (a>b)))|.geq=>some (.bool (decide (a>=b)))|_=>none
def AF4(op:BinOp)(k:IntKind)(a b:Int):Option T:=
 if b<0 then none else
 match op with
 |.shl=>some (.int k (k.wrap (a*2 ^ (min b.toNat k.bits))))|.shr=>some (.int k (a.fdiv (2 ^ (min b.toNat k.bits))))|_=>none
def AJ0(op:BinOp):T->T->Option T
 |.int k a,.int k' b=>match op with|.shl|.shr=>AF4 op k a b|_=>if k=k' then az op k a b else none
 |.str a,.str b=>match op with|.add=>if a.length+b.length<=OI then some (.str (a++b)) else none|.eql=>some (.bool (a==b))|.neq=>some (.bool (a != b))|_=>none
 |.bool a,.bool b=>match op with|.eql=>some (.bool (a==b))|.neq=>some (.bool (a != b))|_=>none
 |_,_=>none
def St.VN(S:St):AT->Option Bool
 |.t .nil=>some true|.vw _ _ (_::_)=>some false|.al r none=>match S.at r with|some (.ow .nil)=>some true|some (.ow (.sl _ (_::_)))=>some false|_=>none
 |_=>none
def nE(op:BinOp)(b:Bool):Option T:=match op with|.eql=>some (.bool b)|.neq=>some (.bool !b)|_=>none
def dO(op:BinOp):T->T->Option T|.int k a,.int k' b=>AJ0 op (.int k a) (.int k' b)|.str a,.str b=>AJ0 op (.str a) (.str b)|_,_=>none
def St.bin(S:St)(c:Cls)(op:BinOp)(x y:Ent):Option T:=
 match c with
 |.num=>match x,y with|⟨.one,[.t a]⟩,⟨.one,[.t b]⟩=>dO op a b|_,_=>none
 |.bool=>match x,y with|⟨.one,[.t (.bool a)]⟩,⟨.one,[.t (.bool b)]⟩=>nE op (a==b)|_,_=>none
 |.sl=>match x,y with
  |⟨.one,[l]⟩,⟨.one,[.t .nil]⟩=>match S.VN l with|some b=>nE op b|none=>none
  |_,_=>none
 |.agg ks=>match x,y with
  |⟨.agg,as⟩,⟨.agg,bs⟩=>match Vh as,Vh bs with
   |some as,some bs=>match Rx ks as bs with|some b=>nE op b|none=>none
   |_,_=>none
  |_,_=>none
def unT(op:UnOp):T->Option T
 |.bool b=>match op with|.not=>some (.bool !b)|_=>none
 |.int k n=>match op with|.neg=>some (.int k (k.wrap (0-n)))|_=>none
 |_=>none
def J7(s:List UInt8):List (List T):=s.map fun b=>[.int .u8 b.toNat]
def byteOf:List T->Option UInt8| [.int .u8 n]=>some (UInt8.ofNat n.toNat)|_=>none
def bytesOf:List (List T)->Option (List UInt8)
 | []=>some []|x::xs=>match byteOf x,bytesOf xs with|some b,some bs=>some (b::bs)|_,_=>none
def flat:T->Bool|.sl _ _=>false|.top=>false|.mp _=>false|_=>true
def Gm(xs:List (List T)):Bool:=xs.all (·.all flat)
def AJz(e:Nat)(x:T)(ys:List (List T)):T:=match x with|.sl e xs=>.sl e (xs++ys)|_=>.sl e ys
def eOf(e:Nat):T->Bool|.sl e' _=>e'==e|_=>true
def PQ(e:Nat)(fl:Bool)(S:St)(l:AT):Option (St×List (List T)):=
 match l with
 |.t (.str s)=>if e=1 then some (S,J7 s) else none|.t .nil=>some (S,[])|.vw _ e' xs=>if e'=e/\Gm xs=true then some (S,xs) else none|.al r sub=>match S.at r with
  |some (.ow x)=>match content x with|some xs=>if eOf e x=true then (if fl=true then (if Gm (Jg sub xs)=true then some (S,Jg sub xs) else none) else some (S.out r,Jg sub xs)) else none|none=>none
  |_=>none
 |_=>none
def toEnd(sub:Option (Nat×Nat))(len:Nat):Bool:=match sub with|none=>true|some (lo,n)=>lo+n==len
def Rh(e:Nat)(S:St)(l:AT):Option (St×T×Nat):=
 match l with
 |.t .nil=>some (S,.nil,0)|.al r sub=>match S.at r with
  |some (.ow x)=>match content x with|some xs=>if eOf e x=true/\toEnd sub xs.length=true then some (S.out r,nU sub x,(Jg sub xs).length) else none|none=>none
  |_=>none
 |.vw (.own r (some (i,j))) e' xs=>if e'=e then match S.pull r i j with|some S'=>some (S',.sl e xs,xs.length)|none=>none else none
 |_=>none
def Mk(off:Nat):AT->Option AT|.bp id o=>some (.bp id (o+off))|.ep r i j=>some (.ep r i (j+off))|.vp s cs=>some (.vp s (cs.drop off))|_=>none
def Je(r:CD)(i:Nat):Nat->List T->List AT|_,[]=>[]|j,x::xs=>Kq (.own r (some (i,j))) x::Je r i (j+1) xs
def Qc(b:Nat):Nat->List AT->List AT|_,[]=>[]|c,.ow _::ls=>.al (.cell b c) none::Qc b (c+1) ls|c,l::ls=>l::Qc b (c+1) ls
def St.load(S:St)(n:Nat):AT->Option (List AT)
 |.bp id o=>match get S.bx id with|some ls=>if o+n<=ls.length then some (Qc id o ((ls.drop o).take n)) else none|none=>none
 |.ep r i j=>match S.at r with
  |some (.ow (.sl _ xs))=>match xs[i]? with|some cs=>if j+n<=cs.length then some (Je r i j ((cs.drop j).take n)) else none|none=>none
  |_=>none
 |.vp s cs=>if n<=cs.length then some ((cs.take n).map (Kq s.up)) else none|_=>none
def Dr{α:Type}:List α->Nat->List α->List α|ls,_,[]=>ls|ls,o,c::cs=>Dr (ls.set o c) (o+1) cs
def IE(b o n:Nat)(l:AT):Bool:=match l.Bz with|some (.cell b' c)=>b'=b&&decide (o<=c)&&decide (c<o+n)|_=>false
def H4:List AT->Bool| []=>false|.t .top::_=>true|.und::_=>true|_::ls=>H4 ls
def YM(n:Nat)(S:St)(ls:List AT):Option (St×List AT):=if n<1048576 then LM S ls else some (S,ls)
def St.RX(S:St)(n:Nat)(p:AT)(cs:List AT):Option St:=
 match p with
 |.bp id o=>match YM n S cs with
  |some (S',cs')=>if H4 cs'=true then none else
   let S2:=S'.kill (IE id o cs'.length)
   match get S2.bx id with
   |some ls=>if o+cs'.length<=ls.length then some { S2 with bx:=put S2.bx id (Dr ls o (ES (IE id o cs'.length) cs'))} else none
   |none=>none
  |none=>none
 |.ep r i j=>match Di S cs with
  |some (S',ts)=>match S'.at r with
   |some (.ow (.sl e xs))=>match xs[i]? with|some row=>if j+ts.length<=row.length then some ((S'.Bi r (.ow (.sl e (xs.set i (Dr row j ts))))).kill (FW r)) else none|none=>none
   |_=>none
  |none=>none
 |_=>none
def MX(S:St):List AT->List (Nat×Nat×Opd)->Option (List AT)
 |ls,[]=>some ls|ls,(o,n,x)::ps=>match S.rd x with|some e=>if e.cs.length=n/\GJ e.sh n=true/\H4 e.cs=false/\o+n<=ls.length then MX S (Dr ls o e.cs) ps else none|none=>none
def rowsOf(n:Nat)(zs:List T):List (List T):=List.replicate n zs
def bsK(m n:Nat):St->List (List T)->List (Nat×Opd)->Option (St×List (List T))
 |S,xs,[]=>some (S,xs)|S,xs,(i,x)::ps=>match S.rd x with
  |some e=>if e.cs.length=m/\GJ e.sh e.cs.length=true/\i<n then match Di S e.cs with
   |some (S',cs)=>bsK m n S' (xs.set i cs) ps|none=>none
   else none
  |none=>none
def AB3:Sh->Bool|.one=>true|_=>false
def St.Rm:AT->Bool|.bp _ _|.ep _ _ _|.vp _ _=>true|_=>false
def Dk(n:Option Nat):Nat:=match n with|some k=>k|none=>1
def shN(n:Option Nat):Sh:=match n with|some _=>.agg|none=>.one
def UM:List (Option Nat)->Nat| []=>0|n::ns=>Dk n+UM ns
def St.range(S:St)(len:Nat)(lo hi:Option Opd):Option (Nat×Nat):=
 match S.ARh 0 lo,S.ARh len hi with
 |some a,some b=>if 0<=a/\a<=b/\b<=len then some (a.toNat,b.toNat) else none|_,_=>none
def St.wide(S:St)(e:Nat):AT->Bool
 |.vw _ e' _=>e'==e|.al r _=>match S.at r with|some (.ow x)=>eOf e x|_=>false
 |_=>true
def Mh:List (Int×Int)->Int->Int| [],_=>0|(k,v)::r,n=>if n=k then v else Mh r n
def Jf:List (Int×Int)->Int->Int->List (Int×Int)| [],n,m=>[(n,m)]|(k,v)::r,n,m=>if n=k then (k,m)::r else (k,v)::Jf r n m
def St.P9(S:St)(x:Opd):Option (CD×List (Int×Int)):=
 match S.one x with
 |some (.al r none)=>match S.at r with|some (.ow (.mp ks))=>some (r,ks)|_=>none
 |_=>none
def ev(o:XOp)(S:St):Option St:=
 match o with
 |.mv d x=>match S.rd x with|some e=>S.D9 d e|none=>none
 |.as d x=>match S.rd x with
  |some e=>match LM S e.cs with|some (S',cs)=>S'.D9 d ⟨e.sh,cs⟩|none=>none
  |none=>none
 |.pick d c a b=>match S.sc c,S.rd a,S.rd b with|some (.bool t),some ea,some eb=>S.D9 d (if t=true then ea else eb)|_,_,_=>none
 |.alloc d zs=>if d∈S.pin then none else
  let S':=S.kill (fun l=>E1 d l||Fp d l)
  some { S' with tm:=put S'.tm d ⟨.one,[.bp d 0]⟩,bx:=put S'.bx d (zs.map .t)}
 |.box d x=>match S.rd x with
  |some e=>match sG S x e.cs with
   |some (S1,cs)=>if d∈S1.pin\/H4 cs=true\/GJ e.sh e.cs.length=false then none else
    let q:=fun l=>E1 d l||Fp d l
    let S':=S1.kill q
    some { S' with tm:=put S'.tm d ⟨.one,[.bp d 0]⟩,bx:=put S'.bx d (ES q cs)}
   |none=>none
  |none=>none
 |.build d zs parts=>match MX S (zs.map .t) parts with|some ls=>S.D9 d ⟨.agg,ls⟩|none=>none
 |.CB d n zs parts=>if n*zs.length<=16777216 then match bsK zs.length n S (rowsOf n zs) parts with
  |some (S',xs)=>S'.D9 d ⟨.one,[.ow (.sl zs.length xs)]⟩|none=>none
  else none
 |.ld d n x=>match S.one x with
  |some p=>match S.load (Dk n) p with|some ls=>S.D9 d ⟨shN n,ls⟩|none=>none
  |none=>none
 |.st n x v=>match S.one x,S.rd v with|some p,some e=>if e.cs.length=n % 1048576/\GJ e.sh (n % 1048576)=true then S.RX n p e.cs else none|_,_=>none
 |.chk d x=>match S.one x with|some p=>if St.Rm p=true then S.D9 d ⟨.one,[p]⟩ else none|none=>none
 |.bin d c op x y=>match S.rd x,S.rd y with
  |some ex,some ey=>match S.bin c op ex ey with|some t=>S.D9 d ⟨.one,[.t t]⟩|none=>none
  |_,_=>none
 |.un d op x=>match S.sc x with
  |some a=>match unT op a with|some t=>S.D9 d ⟨.one,[.t t]⟩|none=>none
  |none=>none
 |.cvI d k x=>match S.nat x with|some n=>S.D9 d ⟨.one,[.t (.int k (k.wrap n))]⟩|none=>none
 |.M9 d x=>match S.sc x with|some (.str s)=>S.D9 d ⟨.one,[.ow (.sl 1 (J7 s))]⟩|_=>none
 |.O3 d x=>match S.one x with
  |some l=>match S.elems l with
   |some xs=>match bytesOf xs with|some bs=>S.D9 d ⟨.one,[.t (.str bs)]⟩|none=>none
   |none=>none
  |none=>none
 |.NG d f caps=>match S.rds caps with|some es=>if (es.all fun e=>AB3 e.sh&&e.cs.length==1&&e.cs.all AT.plain)=true then S.D9 d ⟨.one,[.fn f (es.flatMap Ent.cs)]⟩ else none|none=>none
 |.R0 d zs n c=>match S.nat n,S.nat c with|some k,some k'=>if k'=k/\0<=k/\k<=lim then S.D9 d ⟨.one,[.ow (.sl zs.length (rowsOf k.toNat zs))]⟩ else none|_,_=>none
 |.Vf d x lo hi=>match S.sc x with
  |some (.str s)=>match S.range s.length lo hi with|some (a,b)=>S.D9 d ⟨.one,[.t (.str ((s.drop a).take (b-a)))]⟩|none=>none
  |_=>none
 |.sub d e x lo hi=>match S.one x with
  |some l=>match if S.wide e l=true then S.elems l else none with
   |some xs=>match S.range xs.length lo hi with
    |some (a,b)=>match l with|.al r none=>S.D9 d ⟨.one,[.al r (some (a,b-a))]⟩|.al r (some (lo0,_))=>S.D9 d ⟨.one,[.al r (some (lo0+a,b-a))]⟩|.vw s e' _=>S.D9 d ⟨.one,[.vw s.up e' ((xs.drop a).take (b-a))]⟩|l=>S.D9 d ⟨.one,[l]⟩
    |none=>none
   |none=>none
  |none=>none
 |.fa d off x=>match S.one x with
  |some p=>match Mk off p with|some q=>S.D9 d ⟨.one,[q]⟩|none=>none
  |none=>none
 |.fld d off n x=>match S.rd x with|some ⟨.agg,cs⟩=>if off+Dk n<=cs.length then S.D9 d ⟨shN n,(cs.drop off).take (Dk n)⟩ else none|_=>none
 |.ia d e x i=>match S.one x,S.nat i with
  |some l,some n=>match S.elems l with
   |some xs=>if S.wide e l=true/\0<=n/\n<xs.length then match l with
    |.al r none=>S.D9 d ⟨.one,[.ep r n.toNat 0]⟩|.al r (some (lo,_))=>S.D9 d ⟨.one,[.ep r (lo+n.toNat) 0]⟩|.vw s _ _=>S.D9 d ⟨.one,[.vp s.up (xs.getD n.toNat [])]⟩|_=>none
    else none
   |none=>none
  |_,_=>none
 |.ix d x i=>match S.sc x,S.nat i with|some (.str s),some n=>if 0<=n/\n<s.length then S.D9 d ⟨.one,[.t (.int .u8 (s.getD n.toNat 0).toNat)]⟩ else none|_,_=>none
 |.ext d x i=>match x with
  |.tmp s=>match get S.tm s with
   |some ⟨.tup ns,cs⟩=>match ns[i]? with
    |some n=>
     let o:=UM (ns.take i)
     if o+Dk n<=cs.length then match LM S (((R9 s 0 cs).drop o).take (Dk n)) with|some (S',ls)=>S'.D9 d ⟨shN n,ls⟩|none=>none
     else none
    |none=>none
   |_=>none
  |_=>none
 |.lens d x=>match S.sc x with|some (.str s)=>S.D9 d ⟨.one,[.t (.int .i64 s.length)]⟩|_=>none
 |.len d x=>match S.one x with
  |some l=>match S.elems l with|some xs=>S.D9 d ⟨.one,[.t (.int .i64 xs.length)]⟩|none=>none
  |none=>none
 |.app d e fl x y=>match S.one x,S.one y with
  |some lx,some ly=>match PQ e fl S ly with
   |some (S1,ys)=>match Rh e S1 lx with|some (S2,b,n)=>if n+ys.length<=lim then S2.D9 d ⟨.one,[.ow (AJz e b ys)]⟩ else none|none=>none
   |none=>none
  |_,_=>none
 |.SA d zs x n=>match S.one x,S.nat n with
  |some lx,some k=>if 0<=k/\k<=lim then match Rh zs.length S lx with
   |some (S2,b,n)=>if n+k.toNat<=lim then S2.D9 d ⟨.one,[.ow (AJz zs.length b (rowsOf k.toNat zs))]⟩ else none|none=>none
   else none
  |_,_=>none
 |.cpy d e x y=>match S.one x,S.one y with
  |some (.al r none),some ly=>match S.at r,S.elems ly with
   |some (.ow (.sl e' xs)),some ys=>
    if e'=e/\S.wide e ly=true/\Gm ys=true/\Gm xs=true/\xs.isEmpty=false
    then ((S.Bi r (.ow (.sl e (ys.take xs.length++xs.drop ys.length)))).kill (FW r)).D9 d ⟨.one,[.t (.int .i64 (min ys.length xs.length:Nat))]⟩ else none
   |_,_=>none
  |_,_=>none
 |.mm d isMax x y=>match S.sc x,S.sc y with|some (.int k a),some (.int k' b)=>if k'=k then S.D9 d ⟨.one,[.t (.int k (if isMax=true then (if b>a then b else a) else (if b<a then b else a)))]⟩ else none|_,_=>none
 |.mmk d=>S.D9 d ⟨.one,[.ow (.mp [])]⟩|.UK d x k=>match S.P9 x,S.sc k with|some (_,ks),some (.int .i64 n)=>S.D9 d ⟨.one,[.t (.int .i64 (Mh ks n))]⟩|_,_=>none
 |.TF x k v=>match S.P9 x,S.sc k,S.sc v with|some (r,ks),some (.int .i64 n),some (.int .i64 m)=>some ((S.Bi r (.ow (.mp (Jf ks n m)))).kill (FW r))|_,_,_=>none
 |.UL d x=>match S.P9 x with|some (_,ks)=>S.D9 d ⟨.one,[.t (.int .i64 ks.length)]⟩|none=>none
 |.bad _=>none|.drop ds=>some (S.IS ds)|.VO ns=>some (S.RA ns)|.call _ _ _=>none|.D5 _ _ _ _=>none
def Ft(o:XOp)(S:St):Option (Nat×CI×List Ent):=
 match o with
 |.call d f args=>match S.rds args with|some es=>some (d,f,es)|none=>none
 |.D5 d x ms args=>match S.one x,S.rds args with|some (.fn f caps),some es=>if Ef f=ms then some (d,f,es++caps.map (fun l=>⟨.one,[l]⟩)) else none|_,_=>none
 |_=>none
def kv(S:St)(e:Ent):Option Nat:=
 match e with
 |⟨.one,[.bp id _]⟩=>match get S.bx id with|some ls=>if (Fl (DW ls) ls).isSome=true then some (DW ls) else none|none=>none
 |e=>if (Fl (DW e.cs) e.cs).isSome=true then some (DW e.cs) else none
def pre(f:CI)(es:List Ent)(S:St):Option (St×List V):=if Pd [] (Ef f) es=true then none else Vn S (Ef f) es
def kx(f:CI)(S0:St)(es:List Ent)(k:Nat):Option Nat:=
 match es[k]? with
 |some e=>if (Ef f)[k]?=some .p then none else kv S0 e|none=>none
def QC(S:St)(d:Nat)(ls:List AT):Option St:=
 if d∈S.pin then none else
  let S2:=S.kill (fun l=>E1 d l||Fp d l)
  some { S2 with tm:=put S2.tm d ⟨.one,[.bp d 0]⟩,bx:=put S2.bx d ls}
def post(d:Nat)(f:CI)(es:List Ent)(S0 S:St)(sh:Sh)(cs:List T)(outs:List (List T)):Option St:=
 match Fk S0 S (Ef f) es outs with
 |some S'=>match sh with
  |.ptr k=>match kx f S0 es k with|some lab=>QC S' d (cs.map (EN lab))|none=>none
  |.vw k=>match kx f S0 es k with|some lab=>S'.D9 d ⟨.one,cs.map (EN lab)⟩|none=>none
  |sh=>S'.D9 d (AYQ sh cs)
 |none=>none
def XOp.jm:XOp->Option Nat|.mv d _|.as d _|.pick d _ _ _|.alloc d _|.box d _|.build d _ _|.CB d _ _ _|.ld d _ _|.chk d _|.bin d _ _ _ _|.un d _ _|.cvI d _ _|.M9 d _|.O3 d _|.NG d _ _|.R0 d _ _ _|.sub d _ _ _ _|.Vf d _ _ _|.fa d _ _|.fld d _ _ _|.ia d _ _ _|.ix d _ _|.ext d _ _|.call d _ _|.D5 d _ _ _|.len d _|.lens d _|.app d _ _ _ _|.SA d _ _ _|.cpy d _ _ _|.mm d _ _ _|.mmk d|.UK d _ _|.UL d _=>some d|.st _ _ _=>none|.TF _ _ _=>none|.bad d=>d|.drop _=>none|.VO _=>none
def MS(o:XOp)(S:St):Option St:=match o.jm with|some d=>S.D9 d ⟨.one,[.und]⟩|none=>some S
def wanted(S:St):Option (Nat×Bool)->Option Bool
 |none=>some true|some (s,want)=>match get S.tm s with|some ⟨.one,[.t (.bool b)]⟩=>some (b==want)|some ⟨.one,[.und]⟩=>some false|_=>none
def opK(Rn:Rel)(o:XOp)(S:St)(K:St->Prop):Prop:=
 (∃S',ev o S=some S'/\K S') \/
 (∃d f es S1 vs sh cs outs S2,Ft o S=some (d,f,es)/\pre f es S=some (S1,vs)/\Rn f vs sh cs outs/\post d f es S S1 sh cs outs=some S2/\K S2)
def AFj(Rn:Rel):List (Option (Nat×Bool)×XOp)->St->(St->Prop)->Prop
 | [],S,K=>K S|(g,o)::r,S,K=>∃b,wanted S g=some b /\
  ((b=true/\opK Rn o S (fun S'=>AFj Rn r S' K))\/(b=false/\∃S',MS o S=some S'/\AFj Rn r S' K))
def XOp.wr:XOp->Option Opd|.app _ _ _ x _|.SA _ _ x _|.cpy _ _ x _|.TF x _ _=>some x|_=>none
def J6(l:AT):List Md->List Ent->Bool|md::ms,e::es=>(!md.writes||e.cs.all fun l'=>!RN l' l)&&J6 l ms es|_,_=>true
def St.N0(S:St):AT->Bool
 |.bp id _=>(get S.bx id).isSome|.ep _ _ _=>true|.vp _ cs=>!cs.isEmpty|.al r _=>match S.at r with|some (.ow x)=>!ZV x|_=>false
 |.vw (.own _ _) _ _=>true|.t .nil=>true|_=>false
def Um(o:XOp)(S:St)(l:AT):Bool:=
 S.N0 l&&match o with
  |.st _ x _=>match S.one x with|some (.bp id _)=>!(names l).contains id|some (.ep r _ _)=>decide (l.Bz≠some r)|_=>false
  |o=>match Ft o S with
   |some (_,f,es)=>J6 l (Ef f) es|none=>match o.wr with
    |some y=>match S.one y with|some lt=>l.Bz.isNone||decide (l.Bz≠lt.Bz)|none=>true
    |none=>true
def Ju(o:XOp)(S:St):List Nat->Bool
 | []=>true|s::ss=>(match S.one (.tmp s) with|some l=>Um o S l|none=>false)&&Ju o S ss
def runK(Rn:Rel):Rv->St->(St->Prop)->Prop
 |.nil,S,K=>K S|.op _ g sf o rest,S,K=>∃b,wanted S g=some b /\
  ((b=true/\Ju o S sf=true/\opK Rn o S (fun S'=>runK Rn rest S' K))\/(b=false/\∃S',MS o S=some S'/\runK Rn rest S' K))
 |.dr ds rest,S,K=>runK Rn rest (S.IS ds) K|.nl ns rest,S,K=>runK Rn rest (S.RA ns) K|.both a b,S,K=>runK Rn a S K/\runK Rn b S K
inductive Ex where
 |n|x(id:Nat)|r
def AJF(body:St->(Ex->St->Prop)->Prop):Nat->St->(Ex->St->Prop)->Prop
 |0,_,_=>False|n+1,S,Q=>body S (fun e S'=>match e with|.n=>AJF body n S' Q|e=>Q e S')
def wp(Rn:Rel):Ng->St->(Ex->St->Prop)->Prop
 |.skip,S,Q=>Q .n S|.region ops FV,S,Q=>AFj Rn ops S (fun S'=>∃ks,Q .n (S'.clean ks))|.U5 r FV,S,Q=>runK Rn r S (fun S'=>∃ks,Q .n (S'.clean ks))|.seq a b,S,Q=>wp Rn a S (fun e S'=>match e with|.n=>wp Rn b S' Q|e=>Q e S')
 |.cond c kt ke t e,S,Q=>∃b,S.sc (.tmp c)=some (.bool b)/\∃ks,if b=true then wp Rn t (S.clean ks) Q else wp Rn e (S.clean ks) Q|.block id b,S,Q=>wp Rn b S (fun e S'=>match e with|.x i=>if i=id then Q .n S' else Q (.x i) S'|e=>Q e S')
 |.loop b,S,Q=>∃n,AJF (wp Rn b) n S Q|.exit id,S,Q=>Q (.x id) S|.ret,S,Q=>Q .r S|.scope b,S,Q=>wp Rn b S Q|.or a b,S,Q=>wp Rn a S Q\/wp Rn b S Q|.dead,_,_=>False
def O2(i:Nat):List V->Option (List AT)| []=>some []|.v .one [x]::vs=>(O2 i vs).map (EN i x::·)|.p cs::vs=>(O2 i vs).map (.vp (.old i) cs::·)|_::_=>none
def initK:Nat->List Md->List V->St->Option St
 |_,[],[],S=>some S|i,.v::ms,.v sh cs::vs,S=>initK (i+1) ms vs { S with tm:=put S.tm i ⟨sh,cs.map (EN i)⟩}
 |i,.v::ms,.f xf caps::vs,S=>match O2 i caps with
  |some ls=>initK (i+1) ms vs { S with tm:=put S.tm i ⟨.one,[.fn xf ls]⟩}
  |none=>none
 |i,.p::ms,.p cs::vs,S=>initK (i+1) ms vs { S with tm:=put S.tm i ⟨.one,[.vp (.old i) cs]⟩}
 |i,.b::ms,.b cs::vs,S=>initK (i+1) ms vs { S with tm:=put S.tm i ⟨.one,[.bp i 0]⟩,bx:=put S.bx i (cs.map (EN i)),pin:=i::S.pin}
 |i,.o::ms,.o sh cs::vs,S=>initK (i+1) ms vs { S with tm:=put S.tm i ⟨sh,cs.map Jt⟩}
 |i,.m::ms,.m sh cs::vs,S=>if GJ sh cs.length=true then initK (i+1) ms vs { S with tm:=put S.tm i ⟨sh,cs.map Jt⟩,pin:=i::S.pin} else none
 |_,_,_,_=>none
def MQ:List HU->St->Option (List (Option Nat)×List AT)
 | [],_=>some ([],[])|.tmp t::rs,S=>match S.rd (.tmp t),MQ rs S with
  |some e,some (ns,ls)=>if GJ e.sh e.cs.length=true then some ((match e.sh with|.one=>none|_=>some e.cs.length)::ns,e.cs++ls) else none
  |_,_=>none
 |.cell t n::rs,S=>match S.one (.tmp t) with
  |some (.bp id o)=>match S.load (Dk n) (.bp id o),MQ rs S with|some ls',some (ns,ls)=>some (n::ns,ls'++ls)|_,_=>none
  |_=>none
 |.bx _::_,_=>none|.vw _ _::_,_=>none|.un _ _::_,_=>none
def ACv:List (Option Nat)->Sh| [none]=>.one| [some _]=>.agg|ns=>.tup ns
def N7:List AT->Bool
 | []=>true|l::ls=>(match l with|.t x=>!Ro x|.vw (.old _) _ _=>true|_=>false)&&N7 ls
def ba(rs:List HU)(S:St):Option (St×Sh×List T):=
 match rs with
 | [.bx t]=>match S.one (.tmp t) with
  |some (.bp id 0)=>match get S.bx id with
   |some ls=>if id∈S.pin then none else match Fl (DW ls) ls with|some cs=>some (S,.ptr (DW ls),cs)|none=>none
   |none=>none
  |_=>none
 | [.vw t k]=>match S.one (.tmp t) with
  |some (.vw (.old k') e xs)=>if k'=k then some (S,.vw k,[.sl e xs]) else none|some (.t .nil)=>some (S,.vw k,[.nil])|some (.al r sub)=>match S.at r with|some (.ow x)=>some (S.out r,.vw k,[nU sub x])|_=>none
  |_=>none
 |.un t n::r::rs=>match S.one (.tmp t) with
  |some (.bp id o)=>match S.load n (.bp id o) with
   |some ls'=>if N7 ls'=true then match MQ (r::rs) S with
    |some (ns,ls)=>match Di S ls with|some (S',cs)=>some (S',.tup (some n::ns),List.replicate n .un++cs)|none=>none
    |none=>none
    else none
   |none=>none
  |_=>none
 |rs=>match MQ rs S with
  |some (ns,ls)=>match Di S ls with|some (S',cs)=>some (S',ACv ns,cs)|none=>none
  |none=>none
def owT:AT->Option T|.ow x=>some x|.t x=>if Ro x=true then none else some x|_=>none
def bZ:List AT->Option (List T)
 | []=>some []|l::ls=>match owT l,bZ ls with|some x,some xs=>some (x::xs)|_,_=>none
def FI:Nat->List Md->St->Option (List (List T))
 |_,[],_=>some []|i,.b::ms,S=>match get S.bx i,FI (i+1) ms S with|some ls,some os=>if i∈S.pin then (Fl i ls).map (·::os) else none|_,_=>none
 |i,.m::ms,S=>match get S.tm i,FI (i+1) ms S with|some e,some os=>if i∈S.pin/\GJ e.sh e.cs.length=true then (bZ e.cs).map (·::os) else none|_,_=>none
 |i,_::ms,S=>FI (i+1) ms S
def fin(ms:List Md)(rs:List HU)(S:St)(sh:Sh)(cs:List T)(outs:List (List T)):Prop:=
 ∃S',ba rs S=some (S',sh,cs)/\FI 0 ms S'=some outs
def Gi:List Md->List V->List (List T)->Bool| [],[],[]=>true|.b::ms,.b cs::vs,o::os=>o.length==cs.length&&Gi ms vs os|.b::_,_,_=>false|.m::ms,_::vs,_::os=>Gi ms vs os|.v::ms,_::vs,os=>Gi ms vs os|.p::ms,_::vs,os=>Gi ms vs os|.o::ms,_::vs,os=>Gi ms vs os|_,_,_=>false
def UR(id:Nat)(vs:List V)(sh:Sh)(cs:List T)(outs:List (List T)):Prop:=
 id≠1/\if id % 2=0 then
  ∃x xs y ys i,vs=[.o .one [x],.v .one [.int .i64 i],.v .one [y]]/\content x=some xs/\eOf (id / 2) x=true/\content y=some ys/\eOf (id / 2) y=true/\Gm xs=true/\Gm ys=true/\0<=i/\i.toNat<=xs.length/\ys≠[]/\xs.length+ys.length<=lim /\
   sh=.one/\cs=[.sl (id / 2) (xs.take i.toNat++ys++xs.drop i.toNat)]/\outs=[]
 else
  ∃xs i j,vs=[.o .one [.sl (id / 2) xs],.v .one [.int .i64 i],.v .one [.int .i64 j]]/\Gm xs=true/\0<=i/\i<j/\j<=xs.length /\
   sh=.one/\cs=[.sl (id / 2) (xs.take i.toNat++xs.drop j.toNat)]/\outs=[]
def Xw(Rn:Rel):CI->List V->Sh->List T->List (List T)->Prop
 |.mk ms rs body,vs,sh,cs,outs=>∃S0,initK 0 ms vs ⟨[],[],[]⟩=some S0 /\
  wp Rn body S0 (fun e S=>match e with|.x _=>False|_=>fin ms rs S sh cs outs)/\Gi ms vs outs=true
 |.Mj id _,vs,sh,cs,outs=>UR id vs sh cs outs
def Ji:Rel:=fun f vs sh cs outs=>∀Rn:Rel,(∀f vs sh cs outs,Xw Rn f vs sh cs outs->Rn f vs sh cs outs)->Rn f vs sh cs outs
end Lv
namespace Lv
open Go
abbrev Blk:=Nat->Prop
def Sc:T->Value->Prop|.top,_=>True|.un,v=>v.oneCell'=true|.int k n,v=>v=.int k n|.bool b,v=>v=.bool b|.str s,v=>v=.string ⟨s.toArray⟩|.nil,v=>v=.slice none 0 0|.np,v=>v=.pointer none|.sl _ _,_=>False|.mp _,_=>False
structure Still(w w':World):Prop where
 size:w.heap.size<=w'.heap.size
 os:w'.os=w.os
 output:w'.output=w.output
 frozen:∀a,a.block<w.heap.size->w'.frozen? a=w.frozen? a
theorem Still.refl{w:World}:Still w w:=⟨Ad _,rfl,rfl,fun _ _=>rfl⟩
theorem Still.trans{w w' j:World}(h:Still w w')(c:Still w' j):Still w j:=
 ⟨Nat.le_trans h.size c.size,c.os.trans h.os,c.output.trans h.output,fun a e=>(c.frozen a (BR e h.size)).trans (h.frozen a e)⟩
theorem Still.drawn{w:World}(n:Nat):Still w { w with drawn:=n}:=⟨Ad _,rfl,rfl,fun _ _=>rfl⟩
theorem Still.alloc{w:World}{o:Obj}:Still w { w with heap:=w.heap.push o}:=by
 refine⟨by simp,rfl,rfl,fun a h=>?_⟩;unfold World.frozen?;simp[GY,Mr h]
theorem Still.old{w w':World}(j:w.heap.size<=w'.heap.size)(c:w'.os=w.os)(e:w'.output=w.output)(q:∀b,b<w.heap.size->w'.heap[b]?=w.heap[b]?):Still w w':=by
 refine⟨j,c,e,fun a h=>?_⟩;unfold World.frozen?;rw[q _ h]
theorem Still.setRow{w:World}{b:Nat}{row:Array Value}:Still w (w.setRow b row):=by
 refine⟨by simp[World.setRow],rfl,rfl,fun a _=>?_⟩
 grind[World.frozen?,World.setRow]
def FM(w:World)(blk:Nat)(arr:Array Value)(E:TypeId)(e:Nat):Prop:=∃fr:Nat×Nat,w.heap[blk]?=some (.cells arr E fr)/\(fr.2=0\/arr.size<=fr.1/\e=1)
theorem FM.of{w:World}{blk:Nat}{arr:Array Value}{E:TypeId}{e:Nat}(h:w.heap[blk]?=some (.cells arr E (0,0))):FM w blk arr E e:=⟨_,h,.inl rfl⟩
theorem FM.cell{e:Nat}{w:World}{blk:Nat}{arr:Array Value}{E:TypeId}(h:FM w blk arr E e)(o:Nat):w.cell? ⟨blk,o,none⟩=arr[o]?:=by
 obtain⟨fr,h,_⟩:=h;simp[World.cell?,h]
theorem FM.lt{e:Nat}{w:World}{blk:Nat}{arr:Array Value}{E:TypeId}(h:FM w blk arr E e):blk<w.heap.size:=by
 obtain⟨fr,h,_⟩:=h;exact(A1.1 h).1
theorem FM.same{e:Nat}{w w':World}{blk:Nat}{arr:Array Value}{E:TypeId}(h:FM w blk arr E e)(j:w'.heap[blk]?=w.heap[blk]?):FM w' blk arr E e:=by
 obtain⟨fr,h,c⟩:=h;exact⟨fr,j.trans h,c⟩
theorem FM.set{e:Nat}{w:World}{blk:Nat}{arr new:Array Value}{E:TypeId}(h:FM w blk arr E e)(j:new.size=arr.size):FM (w.setRow blk new) blk new E e:=by
 obtain⟨fr,h,c⟩:=h;refine⟨fr,?_,by rw[j];exact c⟩;simp[World.setRow,Fx,h]
theorem FM.AXj{e:Nat}{w:World}{blk:Nat}{arr:Array Value}{E:TypeId}(h:FM w blk arr E e){o:Nat}(j:o<arr.size):w.frozen? ⟨blk,o,none⟩=false:=by
 obtain⟨fr,h,c⟩:=h
 grind[World.frozen?,Bool.and_eq_false_iff,decide_eq_false_iff_not]
theorem vW{α:Type}(xs:Array α)(i:Nat)(f g:α->α)(h:∀x,xs[i]?=some x->f x=g x):xs.modify i f=xs.modify i g:=by
 grind
theorem ACr{e:Nat}{w:World}{blk o:Nat}{arr:Array Value}{E:TypeId}{v:Value}(h:FM w blk arr E e):w.setCell ⟨blk,o,none⟩ v=w.setRow blk (arr.setIfInBounds o v):=by
 obtain⟨fr,h,_⟩:=h
 grind[World.setCell,World.setRow,vW]
theorem setRow_setRow{w:World}{blk:Nat}{x y:Array Value}:(w.setRow blk x).setRow blk y=w.setRow blk y:=by
 unfold World.setRow;congr 1
 grind
theorem YA{blk e:Nat}{E:TypeId}:∀(vs:List Value) (o:Nat) (arr:Array Value) (w:World),FM w blk arr E e->o+vs.length<=arr.size ->
 w.setCells blk o vs=w.setRow blk (arr.toList.take o++vs++arr.toList.drop (o+vs.length)).toArray
 | [],o,arr,w,h,_=>by
  obtain⟨fr,h,_⟩:=h;simp only[World.setCells,List.append_nil,AN,C3,List.take_append_drop,Array.toArray_toList];exact(setRow_self w blk arr E fr h).symm
 |v::r,o,arr,w,h,q=>by
  simp only[AH]at q;have c:o<arr.size:=by omega
  rw[World.setCells,ACr h,YA r (o+1) (arr.setIfInBounds o v) _ (h.set (by simp)) (by simp;omega),setRow_setRow];congr 2;simp only[Array.toList_setIfInBounds,AH];rw[List.set_eq_take_append_cons_drop,AX (by simpa using c)];have j:(arr.toList.take o).length=o:=by simp;omega
  rw[List.take_append,List.drop_append,j];simp only[show o+1-o=1 from by omega,List.take_succ_cons,List.take_zero];rw[List.take_of_length_le (by omega),List.drop_eq_nil_of_le (by omega)];simp only[List.nil_append,show o+1+r.length-o=r.length+1 from by omega,List.drop_succ_cons,List.drop_drop,CC,List.cons_append];congr 4;omega
theorem FX{e:Nat}{P:Program}{w:World}{g o:Nat}{cur:Array Value}{E:TypeId}{vs:List Value}(h:FM w g cur E e)(y:o+vs.length<=cur.size)(c:∀v∈vs,v.oneCell'=true) :
 (storeCells ⟨g,o,none⟩ vs 0).run P w=.ok () (w.setRow g (cur.toList.take o++vs++cur.toList.drop (o+vs.length)).toArray):=by
 rw[run_storeCells_cells (P:=P) g o vs 0 w ?_ ?_ c]
 .grind[YA]
 .intro j q;rw[h.cell];simp;omega
 .intro j q;exact h.AXj (by omega)
def aZ(e:MapEntry):Value×Value:=(e.key,e.val)
def bD(p:Int×Int):Value×Value:=(.int .i64 p.1,.int .i64 p.2)
def dE(w:World)(blk:Nat)(ks:List (Int×Int)):Prop:=∃es clock,w.heap[blk]?=some (.map es clock)/\es.toList.map aZ=ks.map bD
theorem dE.lt{w:World}{blk:Nat}{ks:List (Int×Int)}(h:dE w blk ks):blk<w.heap.size:=by
 obtain⟨_,_,h,_⟩:=h;exact(A1.1 h).1
theorem dE.same{w w':World}{blk:Nat}{ks:List (Int×Int)}(h:dE w blk ks)(q:w'.heap[blk]?=w.heap[blk]?):dE w' blk ks:=by
 obtain⟨es,c,e,j⟩:=h;exact⟨es,c,q.trans e,j⟩
inductive View(w:World)(B:Blk):T->Value->Prop
 |sc {x:T} {v:Value}:Sc x v->View w B x v|sl {e:Nat} {xs:List (List T)} {a:Addr} {len cap:Nat} (c:Nat->Nat->Value):len=xs.length->len<=cap->(∀row∈xs,row.length=e) ->
  (xs≠[]->a.spot=none/\B a.block) ->
  (∀i j x,at2 xs i j=some x->w.cell? ⟨a.block,a.off+i*e+j,none⟩=some (c i j)) ->
  (∀i j x,at2 xs i j=some x->View w B x (c i j))->View w B (.sl e xs) (.slice (some a) len cap)
 |nl {e:Nat}:View w B (.sl e []) (.slice none 0 0)|mp {ks:List (Int×Int)} {blk:Nat}:dE w blk ks->B blk->View w B (.mp ks) (.map (some blk))
inductive Own(w:World):T->Value->Blk->Prop
 |sc {x:T} {v:Value} {S:Blk}:Sc x v->v.oneCell'=true->(∀b,¬S b)->Own w x v S|sl {e:Nat} {xs:List (List T)} {blk off len cap:Nat} {arr:Array Value} {E:TypeId} {S:Blk} (c:Nat->Nat->Value) (f:Nat->Nat->Blk) :
  len=xs.length->len<=cap->(∀row∈xs,row.length=e)->FM w blk arr E e->off+cap*e<=arr.size ->
  (∀i j x,at2 xs i j=some x->arr[off+i*e+j]?=some (c i j)) ->
  (∀i j x,at2 xs i j=some x->Own w x (c i j) (f i j)) ->
  (∀i j x,at2 xs i j=some x->¬f i j blk) ->
  (∀i j x i' j' x',at2 xs i j=some x->at2 xs i' j'=some x'->(i=i'->j≠j')->∀b,f i j b->¬f i' j' b) ->
  (∀b,S b↔b=blk\/∃i j x,at2 xs i j=some x/\f i j b) ->
  Own w (.sl e xs) (.slice (some ⟨blk,off,none⟩) len cap) S
 |nl {e:Nat} {S:Blk}:(∀b,¬S b)->Own w (.sl e []) (.slice none 0 0) S|mp {ks:List (Int×Int)} {blk:Nat} {S:Blk}:dE w blk ks->(∀b,S b↔b=blk)->Own w (.mp ks) (.map (some blk)) S
theorem View.mono{w w':World}{B B':Blk}{x:T}{v:Value}(h:View w B x v)(E:∀b,B b->B' b)(J:∀b,B b->w'.heap[b]?=w.heap[b]?):View w' B' x v:=by
 induction h with
 |nl=>exact .nl|mp h q=>exact .mp (h.same (J _ q)) (E _ q)|sc h=>exact .sc h|@sl e xs a len cap c G q H y Q X O=>
  refine .sl c G q H (fun h=>⟨(y h).1,E _ (y h).2⟩) ?_ O;intro i j x L;have I:xs≠[]:=by
   rintro rfl;simp[at2]at L
  grind[World.cell?]
theorem Own.frame{w w':World}{S:Blk}{x:T}{v:Value}(h:Own w x v S)(y:∀b,S b->w'.heap[b]?=w.heap[b]?):Own w' x v S:=by
 induction h with
 |nl e=>exact .nl e|mp h e=>exact .mp (h.same (y _ ((e _).2 rfl))) e|sc h q e=>exact .sc h q e|sl c f q B E G H I O J L j Q=>
  refine .sl c f q B E (G.same (y _ ((j _).2 (.inl rfl)))) H I ?_ J L j
  grind
theorem Own.congr{w:World}{S S':Blk}{x:T}{v:Value}(h:Own w x v S)(e:∀b,S' b↔S b):Own w x v S':=by
 cases h with
 |nl E=>exact .nl fun b B=>E b ((e b).1 B)|mp h y=>exact .mp h fun b=>(e b).trans (y b)|sc h j E=>exact .sc h j fun b B=>E b ((e b).1 B)|sl c f j y G H I J L O Q q=>exact .sl c f j y G H I J L O Q fun b=>(e b).trans (q b)
theorem Own.lt{w:World}{S:Blk}{x:T}{v:Value}(h:Own w x v S):∀b,S b->b<w.heap.size:=by
 induction h with
 |nl q=>exact fun b e=>(q b e).elim|mp h q=>intro b e;rw[(q b).1 e];exact h.lt
 |sc h B q=>exact fun b e=>(q b e).elim|sl c f B I J E L O Q X Y y H=>
  intro b e;rcases(y b).1 e with rfl|⟨i,j,x,G,e⟩
  .exact E.lt
  .exact H i j x G b e
theorem Own.view{w:World}{S:Blk}{x:T}{v:Value}(h:Own w x v S):View w S x v:=by
 induction h with
 |sc h _ y=>exact .sc h|nl=>exact .nl|mp h y=>exact .mp h ((y _).2 rfl)|sl c f B E G H O I Q X Y e L=>
  refine .sl c B E G (fun _=>⟨rfl,(e _).2 (.inl rfl)⟩) ?_ ?_
  .intro i j x q;rw[H.cell];exact I i j x q
  .intro i j x q;exact(L i j x q).mono (fun b J=>(e b).2 (.inr ⟨i,j,x,q,J⟩)) fun _ _=>rfl
theorem Sc.one{x:T}{v:Value}(h:Sc x v)(e:Ro x=false):v.oneCell'=true:=by
 cases x with
 |top=>cases e
 |un=>exact h|sl=>exact h.elim|mp=>exact h.elim|_=>have c:v=_:=h;subst c;rfl
theorem Own.one{w:World}{S:Blk}{x:T}{v:Value}(h:Own w x v S):v.oneCell'=true:=by
 cases h with
 |sc _ h _=>exact h|sl=>rfl|nl=>rfl|mp=>rfl
theorem sA{xs:List (List T)}{i j:Nat}{x:T}(h:at2 xs i j=some x):i<xs.length:=by
 grind[at2,List.getElem?_eq_some_iff]
theorem OT{xs:List (List T)}{e i j:Nat}{x:T}(h:at2 xs i j=some x)(c:∀row∈xs,row.length=e):j<e:=by
 grind[at2,List.mem_of_getElem?,List.getElem?_eq_some_iff]
theorem OU{xs:List (List T)}{lo n i j:Nat}{x:T}(h:at2 ((xs.drop lo).take n) i j=some x):i<n/\at2 xs (lo+i) j=some x:=by
 grind[at2]
theorem Own.sub{w:World}{S:Blk}{e:Nat}{xs:List (List T)}{blk off len cap:Nat}(h:Own w (.sl e xs) (.slice (some ⟨blk,off,none⟩) len cap) S){lo n off' cap':Nat}
 (hn:lo+n<=len) (Z:n<=cap') (I:cap'<=cap-lo) (ho:cap'≠0->off'=off+lo*e) (ho':off'<=off+lo*e) :
 ∃S':Blk,(∀b,S' b->S b)/\Own w (.sl e ((xs.drop lo).take n)) (.slice (some ⟨blk,off',none⟩) n cap') S':=by
 cases h with
 |sc h _ _=>exact h.elim|sl c f h1 h2 J L h5 h6 O Q X y=>
  refine⟨fun b=>b=blk\/∃i j x,at2 ((xs.drop lo).take n) i j=some x/\f (lo+i) j b,?_,?_⟩
  .rintro b (rfl|⟨i,j,x,q,Y⟩)
   .exact(y _).2 (.inl rfl)
   .exact(y _).2 (.inr ⟨_,_,_,(OU q).2,Y⟩)
  .have E:(lo+cap')*e<=cap*e:=Nat.mul_le_mul_right _ (by omega);rw[Nat.add_mul]at E;refine .sl (fun i j=>c (lo+i) j) (fun i j=>f (lo+i) j) (by simp;omega) Z ?_ L (by omega) ?_ ?_ ?_ ?_ (fun b=>Iff.rfl)
   .intro row B;exact J row (List.mem_of_mem_drop (List.mem_of_mem_take B))
   .intro i j x q;have h:=OU q
    grind[Nat.add_mul]
   .intro i j x q;exact O _ _ _ (OU q).2
   .intro i j x q;exact Q _ _ _ (OU q).2
   .intro i j x i' j' x' q H G;exact X _ _ _ _ _ _ (OU q).2 (OU H).2 (by intro h;exact G (by omega))
def tOf:Value->Option T|.int k n=>some (.int k n)|.bool b=>some (.bool b)|.string s=>some (.str s.data.toList)|.slice none 0 0=>some .nil|.pointer none=>some .np|_=>none
def AUu:T->T->Bool|.int k a,.int k' b=>decide (k=k')&&decide (a=b)|.bool a,.bool b=>a==b|.str a,.str b=>decide (a=b)|.nil,.nil=>true|.np,.np=>true|_,_=>false
def Qi(v:Value)(x:T):Bool:=match tOf v with|some y=>AUu y x|none=>false
def AJI(v:Value)(x:T):Bool:=match v,x with|.slice none 0 0,.sl _ []=>true|_,_=>false
def Te:List Value->List T->Bool| [],[]=>true|v::vs,x::xs=>Qi v x&&Te vs xs|_,_=>false
def B9:Operand->Opd->Bool|.tmp t,.tmp t'=>t==t'|.const v,.k x=>Qi v x||AJI v x|.func _,.fn _=>true|_,_=>false
def CF:Operand->Opd->List (Nat×CI)|.func f,.fn g=>[(f,g)]|_,_=>[]
def PI:List Operand->List Opd->Bool| [],[]=>true|a::as,b::bs=>B9 a b&&PI as bs|_,_=>false
def Ed:List Operand->List Opd->List (Nat×CI)|a::as,b::bs=>CF a b++Ed as bs|_,_=>[]
def Ul:Option Operand->Option Opd->Bool|none,none=>true|some a,some b=>B9 a b|_,_=>false
def TJ:Option Operand->Option Opd->List (Nat×CI)|some a,some b=>CF a b|_,_=>[]
section
variable(P:Program)
def S9:TypeDesc->Bool|.struct _=>true|_=>false
def PH:TypeDesc->Bool|.struct _|.array _ _=>true|_=>false
def JL(t:TypeId)(n:Option Nat):Bool:=
 match P.underlying t,P.info? t with
 |some d,some i=>(match n with|some k=>S9 d&&i.size==k|none=>!PH d&&i.size==1)
 |_,_=>false
def Z7(t:TypeId)(zs:List T):Bool:=
 match P.info? t with
 |some i=>(match i.zero with|some v=>Te v.cells.toList zs|none=>false)&&i.size==zs.length
 |none=>false
def Yd:List Value->List T->Bool| [],[]=>true|v::vs,x::xs=>(Qi v x||AJI v x)&&Yd vs xs|_,_=>false
def ACl(t:TypeId)(zs:List T):Bool:=
 match P.info? t with
 |some i=>(match i.zero with|some v=>Yd v.cells.toList zs|none=>false)&&i.size==zs.length
 |none=>false
def Ma(P:Program)(el:TypeId):Bool:=match P.info? el with|some i=>(match i.zero with|some z=>z.cells.size==i.size&&decide (0<i.bytes)|none=>false)|none=>false
def Fo(t:TypeId)(e:Nat):Bool:=
 match P.underlying t with
 |some (.slice el)=>(match P.info? el with|some i=>i.size==e&&decide (i.bytes<=65536)&&decide (0<e)|none=>false)
 |_=>false
def isStr(t:TypeId):Bool:=match P.underlying t with|some .string=>true|_=>false
def isInt(t:TypeId)(k:IntKind):Bool:=match P.underlying t with|some (.int k')=>decide (k'=k)|_=>false
def ND(t:TypeId):Bool:=match P.underlying t with|some (.map k e)=>isInt P k .i64&&(match P.info? e with|some i=>(match i.zero with|some (.int .i64 n)=>n==0|_=>false)|none=>false)|_=>false
def Q3(t:TypeId):Bool:=match P.underlying t with|some (.slice el)=>isInt P el .u8&&Fo P t 1|_=>false
def XK(t:TypeId)(f off:Nat):Bool:=
 match P.underlying t with
 |some (.struct fs)=>(match fs[f]? with|some x=>x.offset==off&&(match P.info? x.type with|some i=>decide (0<i.size)|none=>false)|none=>false)
 |_=>false
def P0(fs:Array Field):List (Nat×Operand)->List (Nat×Nat×Opd)->Bool
 | [],[]=>true|(i,x)::ps,(o,n,y)::qs=>(match fs[i]? with|some f=>f.offset==o&&(match P.info? f.type with|some t=>t.size==n|none=>false)|none=>false)&&B9 x y&&P0 fs ps qs
 |_,_=>false
def NW:List (Nat×Operand)->List (Nat×Nat×Opd)->List (Nat×CI)|(_,x)::ps,(_,_,y)::qs=>CF x y++NW ps qs|_,_=>[]
def T5:List (Nat×Operand)->List (Nat×Opd)->Bool| [],[]=>true|(i,x)::ps,(o,y)::qs=>i==o&&B9 x y&&T5 ps qs|_,_=>false
def QK:List (Nat×Operand)->List (Nat×Opd)->List (Nat×CI)|(_,x)::ps,(_,y)::qs=>CF x y++QK ps qs|_,_=>[]
def AYK(t:TypeId)(k:Kd):Bool:=
 match P.underlying t,k with
 |some (.int _),.i=>true|some .bool,.b=>true|some .string,.s=>true|_,_=>false
def P1(sub:TypeId->List Kd->Bool):Nat->List Field->List Kd->Bool
 |_,[],[]=>true|o,f::fs,ks=>f.name != "_" && f.offset==o&&((match ks with|k::ks=>AYK P f.type k&&P1 sub (o+1) fs ks | []=>false) ||
  (match P.info? f.type with|some i=>sub f.type (ks.take i.size)&&P1 sub (o+i.size) fs (ks.drop i.size)|none=>false))
 |_,_,_=>false
def ABj:Nat->TypeId->List Kd->Bool
 |0,_,_=>false|n+1,t,ks=>match P.underlying t with|some (.struct fs)=>P1 P (ABj n) 0 fs.toList ks&&!P.stoodInHeld t|_=>false
def yX(c:Cls)(t:TypeId):Bool:=
 match c,P.underlying t with
 |.num,_=>true|.bool,some .bool=>true|.sl,some (.slice _)=>true|.agg ks,some (.struct _)=>ABj P 4 t ks&&!P.eqGuardType P.depth t|_,_=>false
def vQ(d n:Nat):Bool:=decide (d<n)
def VQ(N:Nat)(dst:Option Nat)(op:Op)(x:XOp):Bool:=
 (match x.jm,dst with|some d,some d'=>d==d'&&vQ d N|none,none=>true|_,_=>false) &&
 match op,x with
 |.move a,.mv _ b=>B9 a b|.assign a,.as _ b=>B9 a b|.assign a,.mv _ b=>B9 a b|.pick c a b,.pick _ c' a' b'=>B9 c c'&&B9 a a'&&B9 b b'|.alloc t,.alloc _ zs=>Z7 P t zs|.box _ a,.box _ b=>B9 a b|.build t ps,.build _ zs qs=>Z7 P t zs&&(match P.underlying t with|some (.struct fs)=>fs.toList.all (fun f=>(P.info? f.type).isSome)&&P0 P fs ps.toList qs|_=>false)
 |.buildSlice t n ps,.CB _ n' zs qs=>n==n'&&Fo P t zs.length&&(match P.underlying t with|some (.slice el)=>ACl P el zs|_=>false)&&T5 ps.toList qs
 |.load t a,.ld _ n b=>JL P t n&&B9 a b|.store t a v,.st n a' v'=>(match P.info? t with|some i=>i.size==n % 1048576|none=>false)&&B9 a a'&&B9 v v'
 |.nilCheck a,.chk _ b=>B9 a b|.binOp op t a b _,.bin _ c op' a' b'=>decide (op=op')&&B9 a a'&&B9 b b'&&yX P c t|.unOp op _ a,.un _ op' b=>decide (op=op')&&B9 a b|.convert s t a,.cvI _ k b=>B9 a b&&isInt P t k&&(match P.underlying s with|some (.int _)=>true|_=>false)
 |.convert s t a,.M9 _ b=>B9 a b&&isStr P s&&Q3 P t|.convert s t a,.O3 _ b=>B9 a b&&Q3 P s&&isStr P t|.makeFunc (.func _) first caps,.NG _ _ caps'=>first.isEmpty&&PI caps.toList caps'
 |.makeSlice t n c,.R0 _ zs n' c'=>Fo P t zs.length&&(match P.underlying t with|some (.slice el)=>ACl P el zs|_=>false)&&B9 n n'&&B9 c c'
 |.slice t a lo hi mx,.sub _ e b lo' hi'=>B9 a b&&Ul lo lo'&&Ul hi hi'&&mx.isNone&&Fo P t e|.slice t a lo hi mx,.Vf _ b lo' hi'=>B9 a b&&Ul lo lo'&&Ul hi hi'&&mx.isNone&&isStr P t|.fieldAddr t a f,.fa _ off b=>XK P t f off&&B9 a b|.field t a f,.fld _ off n b=>XK P t f off&&B9 a b&&(match P.underlying t with|some (.struct fs)=>(match fs[f]? with|some x=>JL P x.type n|none=>false)|_=>false)
 |.indexAddr t a i,.ia _ e b i'=>Fo P t e&&B9 a b&&B9 i i'|.index t a i,.ix _ b i'=>isStr P t&&B9 a b&&B9 i i'|.extract a i,.ext _ b i'=>B9 a b&&i==i'|.call { callee:=.value (.func _),args,..},.call _ _ args'=>PI args.toList args'|.call { callee:=.value f,args,..},.D5 _ f' _ args'=>B9 f f'&&PI args.toList args'|.call { callee:=.builtin .len,args,argTypes},.len _ b=>(match args.toList,argTypes.toList with
  | [a],[t]=>B9 a b&&(match P.underlying t with|some (.slice _)=>true|_=>false)
  |_,_=>false)
 |.call { callee:=.builtin .len,args,argTypes},.lens _ b=>(match args.toList,argTypes.toList with
  | [a],[t]=>B9 a b&&isStr P t|_,_=>false)
 |.call { callee:=.builtin .append,args,argTypes},.app _ e _ a' b'=>(match args.toList,argTypes.toList with
  | [a,b],[t,u]=>B9 a a'&&B9 b b'&&Fo P t e&&(match P.underlying t with|some (.slice el)=>Ma P el|_=>false) &&
   (match P.underlying u with|some (.slice el)=>Fo P u e&&(match P.underlying t with|some (.slice el')=>el==el'|_=>false)|some .string=>e==1&&Q3 P t|_=>false)
  |_,_=>false)
 |.call { callee:=.builtin .append,args,argTypes},.SA _ zs a' b'=>(match args.toList,argTypes.toList with
  | [a,b],[t,u]=>B9 a a'&&B9 b b'&&Fo P t zs.length&&(match P.underlying t with|some (.slice el)=>ACl P el zs&&Ma P el|_=>false)&&(match P.underlying u with|some (.int _)=>true|_=>false)
  |_,_=>false)
 |.call { callee:=.builtin .copy,args,argTypes},.cpy _ e a' b'=>(match args.toList,argTypes.toList with
  | [a,b],[t,u]=>B9 a a'&&B9 b b'&&Fo P t e&&Fo P u e|_,_=>false)
 |.makeMap t r,.mmk _=>r.isNone&&ND P t|.lookup t m k ok,.UK _ m' k'=>!ok&&ND P t&&B9 m m'&&B9 k k'|.mapUpdate t m k v,.TF m' k' v'=>ND P t&&B9 m m'&&B9 k k'&&B9 v v'|.call { callee:=.builtin .len,args,argTypes},.UL _ b=>(match args.toList,argTypes.toList with
  | [a],[t]=>B9 a b&&ND P t|_,_=>false)
 |.call { callee:=.builtin .max,args,..},.mm _ true a' b'=>(match args.toList with | [a,b]=>B9 a a'&&B9 b b'|_=>false)
 |.call { callee:=.builtin .min,args,..},.mm _ false a' b'=>(match args.toList with | [a,b]=>B9 a a'&&B9 b b'|_=>false)
 |_,.bad _=>true|_,_=>false
end
def EC(op:Op)(x:XOp):List (Nat×CI):=
 match op,x with
 |.move a,.mv _ b|.assign a,.as _ b|.assign a,.mv _ b|.box _ a,.box _ b|.load _ a,.ld _ _ b|.nilCheck a,.chk _ b|.unOp _ _ a,.un _ _ b|.convert _ _ a,.cvI _ _ b|.convert _ _ a,.M9 _ b|.convert _ _ a,.O3 _ b|.fieldAddr _ a _,.fa _ _ b|.field _ a _,.fld _ _ _ b|.extract a _,.ext _ b _=>CF a b|.pick c a b,.pick _ c' a' b'=>CF c c'++CF a a'++CF b b'|.build _ ps,.build _ _ qs=>NW ps.toList qs|.buildSlice _ _ ps,.CB _ _ _ qs=>QK ps.toList qs|.store _ a v,.st _ a' v'=>CF a a'++CF v v'|.binOp _ _ a b _,.bin _ _ _ a' b'=>CF a a'++CF b b'|.makeFunc (.func f) _ caps,.NG _ g caps'=>(f,g)::Ed caps.toList caps'|.makeSlice _ n c,.R0 _ _ n' c'=>CF n n'++CF c c'|.slice _ a lo hi _,.sub _ _ b lo' hi'|.slice _ a lo hi _,.Vf _ b lo' hi'=>CF a b++TJ lo lo'++TJ hi hi'|.indexAddr _ a i,.ia _ _ b i'|.index _ a i,.ix _ b i'=>CF a b++CF i i'|.call { callee:=.value (.func f),args,..},.call _ g args'=>(f,g)::Ed args.toList args'|.call { callee:=.value f,args,..},.D5 _ f' _ args'=>CF f f'++Ed args.toList args'|.lookup _ m k _,.UK _ m' k'=>CF m m'++CF k k'|.mapUpdate _ m k v,.TF m' k' v'=>CF m m'++CF k k'++CF v v'|.call { args,..},.UL _ b=>Ed args.toList [b]|.call { args,..},.len _ b|.call { args,..},.lens _ b=>Ed args.toList [b]|.call { args,..},.app _ _ _ a b|.call { args,..},.SA _ _ a b|.call { args,..},.cpy _ _ a b|.call { args,..},.mm _ _ a b=>Ed args.toList [a,b]|_,_=>[]
def Oc(ops:Array Oper):Option (Nat×Bool)->Option (Nat×Bool)->Bool
 |none,none=>true|some (j,want),some (s,want')=>want==want'&&(match ops[j]? with|some o=>decide (o.dst=some s)|none=>false)
 |_,_=>false
def QG(P:Program)(N:Nat)(ops:Array Oper):List Oper->List (Option (Nat×Bool)×XOp)->Bool| [],[]=>true|os,(g,.drop _)::xs=>g.isNone&&QG P N ops os xs|os,(g,.VO _)::xs=>g.isNone&&QG P N ops os xs|o::os,(g,x)::xs=>Oc ops o.guard g&&VQ P N o.dst o.op x&&QG P N ops os xs|_,_=>false
def PJ:List Oper->List (Option (Nat×Bool)×XOp)->List (Nat×CI)|os,(_,.drop _)::xs=>PJ os xs|os,(_,.VO _)::xs=>PJ os xs|o::os,(_,x)::xs=>EC o.op x++PJ os xs|_,_=>[]
inductive AXu where
 |pure|ld|eff
def Mg:XOp->AXu|.ld _ _ _|.O3 _ _=>.ld|.alloc _ _|.box _ _|.CB _ _ _ _|.R0 _ _ _ _|.M9 _ _|.app _ _ _ _ _|.SA _ _ _ _|.cpy _ _ _ _|.st _ _ _|.mmk _|.UK _ _ _|.TF _ _ _|.UL _ _|.bad _|.call _ _ _|.D5 _ _ _ _|.drop _|.VO _=>.eff|_=>.pure
def TB:XOp->Option Nat|.ld _ _ (.tmp s)=>some s|.O3 _ (.tmp s)=>some s|_=>none
def ABb(ops:Array Oper)(j:Nat):Nat:=match ops[j]? with|some o=>o.after.toList.foldl (fun m e=>if Region.binds .any e=true then m |||2 ^ e.on else m) 0|none=>0
def AMt(ops:Array Oper):Nat->Nat->Nat
 |0,m=>m|k+1,m=>match m.testBit k with|true=>AMt ops k (m |||ABb ops k)|false=>AMt ops k m
def Rc(ops:Array Oper)(n j i:Nat):Bool:=(AMt ops n (ABb ops j)).testBit i
def Od:Rv->List Nat|.nil=>[]|.op i _ _ _ _=>[i]|.dr _ r=>Od r|.nl _ r=>Od r|.both a b=>Od a++Od b
def Ia:Rv->Nat|.nil=>0|.op _ _ _ _ r=>Ia r+1|.dr _ r=>Ia r|.nl _ r=>Ia r|.both a b=>max (Ia a) (Ia b)
def IT(P:Program)(N:Nat)(ops:Array Oper):Bool->Rv->Array Bool->List (Nat×Nat)->Bool
 |top,.nil,L,_=>top&&(Bc .any ops L).isEmpty|top,.dr _ r,L,Ls=>IT P N ops top r L Ls|top,.nl _ r,L,Ls=>IT P N ops top r L Ls|top,.both a b,L,Ls=>(!top||(!(Bc .any ops L).isEmpty&&(Bc .any ops L).all (fun j=>(Od a++Od b).contains j)))&&IT P N ops false a L Ls&&IT P N ops false b L Ls|top,.op i g sf x r,L,Ls=>match ops[i]? with
  |none=>false|some o=>Oc ops o.guard g&&VQ P N o.dst o.op x&&Ls.all (fun t=>!(o.dst==some t.2))&&(match Mg x with
   |.pure=>top&&(Bc .any ops L).contains i&&Region.free .any ops L i&&IT P N ops true r (L.setIfInBounds i true) Ls|.ld=>top&&(Bc .any ops L).contains i&&Region.free .any ops L i&&(match TB x with|some s=>!(o.dst==some s)&&IT P N ops true r (L.setIfInBounds i true) ((i,s)::Ls)|none=>false)
   |.eff=>(!top||((Bc .any ops L).contains i&&(Bc .any ops L).all (fun j=>j==i)))&&Ls.all (fun t=>sf.contains t.2||Rc ops ops.size i t.1)&&IT P N ops true r (L.setIfInBounds i true) Ls)
def bA(n m:Nat):Array Bool:=((List.range n).map fun i=>m.testBit i).toArray
def DP{α:Type}(n:Nat)(K:Nat->α):α:=match n with|0=>K 0|k+1=>K (k+1)
theorem GU{α:Type}(n:Nat)(K:Nat->α):DP n K=K n:=by cases n<;>rfl
def vd(P:Program)(N:Nat)(ops:Array Oper)(top:Bool)(i:Nat)(g:Option (Nat×Bool))(sf:List Nat)(x:XOp)(L:Array Bool)(Ls:List (Nat×Nat)):Bool:=match ops[i]? with
 |none=>false|some o=>Oc ops o.guard g&&VQ P N o.dst o.op x&&Ls.all (fun t=>!(o.dst==some t.2))&&(match Mg x with
  |.pure=>top&&(Bc .any ops L).contains i&&Region.free .any ops L i|.ld=>top&&(Bc .any ops L).contains i&&Region.free .any ops L i&&(match TB x with|some s=>!(o.dst==some s)|none=>false)
  |.eff=>(!top||((Bc .any ops L).contains i&&(Bc .any ops L).all (fun j=>j==i)))&&Ls.all (fun t=>sf.contains t.2||Rc ops ops.size i t.1))
def Mn(P:Program)(N:Nat)(ops:Array Oper):Bool->Rv->Nat->List (Nat×Nat)->Bool
 |top,.nil,m,_=>top&&(Bc .any ops (bA ops.size m)).isEmpty|top,.dr _ r,m,Ls=>Mn P N ops top r m Ls&&true|top,.nl _ r,m,Ls=>Mn P N ops top r m Ls&&true|top,.both a b,m,Ls=>Mn P N ops false a m Ls&&(Mn P N ops false b m Ls&&(!top||(!(Bc .any ops (bA ops.size m)).isEmpty&&(Bc .any ops (bA ops.size m)).all (fun j=>(Od a++Od b).contains j))))|top,.op i g sf x r,m,Ls=>match TB x with|some s=>DP (m |||2 ^ i) fun m'=>Mn P N ops true r m' ((i,s)::Ls)&&vd P N ops top i g sf x (bA ops.size m) Ls|none=>DP (m |||2 ^ i) fun m'=>Mn P N ops true r m' Ls&&vd P N ops top i g sf x (bA ops.size m) Ls
theorem AUQ(n:Nat):bA n 0=Array.replicate n false:=by
 apply Array.ext
 .simp[bA]
 .intro i c e;simp[bA]
theorem AMz(n m i:Nat):(bA n m).setIfInBounds i true=bA n (m |||2 ^ i):=by
 apply Array.ext
 .simp[bA]
 .intro j c e;simp only[bA,List.setIfInBounds_toArray,List.getElem_toArray,List.getElem_set,List.getElem_map,List.getElem_range,Nat.testBit_or,Nat.testBit_two_pow]
  grind
theorem AB5{x:XOp}{s:Nat}(h:TB x=some s):Mg x=.ld:=by
 unfold TB at h;split at h<;>first|rfl|cases h
theorem Li{P:Program}{N:Nat}{ops:Array Oper}:∀(r:Rv) (top:Bool) (m:Nat) (Ls:List (Nat×Nat)),Mn P N ops top r m Ls=true->IT P N ops top r (bA ops.size m) Ls=true
 |.nil,top,m,Ls,h=>h|.dr _ r,top,m,Ls,h=>by
  simp only[Mn,CS]at h;simpa only[IT] using Li r top m Ls h
 |.nl _ r,top,m,Ls,h=>by
  simp only[Mn,CS]at h;simpa only[IT] using Li r top m Ls h
 |.both a b,top,m,Ls,h=>by
  simp only[Mn,AF]at h;obtain⟨e,c,q⟩:=h;simp only[IT,AF];exact⟨⟨q,Li a false m Ls e⟩,Li b false m Ls c⟩
 |.op i g sf x r,top,m,Ls,h=>by
  unfold Mn at h;unfold IT;split at h
  .rename_i s j;rw[GU,AF]at h;obtain⟨e,c⟩:=h;have e:=Li r true _ _ e;rw[<-AMz]at e;unfold vd at c;have y:=AB5 j;split at c
   .cases c
   .simp only[y,j,AF]at c ⊢;exact⟨c.1,⟨c.2.1,⟨c.2.2,e⟩⟩⟩
  .rename_i j;rw[GU,AF]at h;obtain⟨e,c⟩:=h;have e:=Li r true _ _ e
   grind[AMz,vd]
def Mm(ops:Array Oper):Rv->List (Nat×CI)
 |.nil=>[]|.op i _ _ x r=>(match ops[i]? with|some o=>EC o.op x|none=>[])++Mm ops r
 |.dr _ r=>Mm ops r|.nl _ r=>Mm ops r|.both a b=>Mm ops a++Mm ops b
def codeOk(P:Program)(N:Nat):Code->Ng->Bool|.skip,.skip=>true|.region _ ops d,.region xs _=>!d&&QG P N ops ops.toList xs|.region _ ops d,.U5 r _=>d&&P.follows .mixedOrders&&Region.noSelect ops&&decide (Ia r<=ops.size)&&Mn P N ops true r 0 []|.seq a b,.seq a' b'=>codeOk P N a a'&&codeOk P N b b'|.cond (.tmp c) t e,.cond c' _ _ t' e'=>c==c'&&codeOk P N t t'&&codeOk P N e e'|.block id b,.block id' b'=>id==id'&&codeOk P N b b'|.loop b,.loop b'=>codeOk P N b b'|.exit id,.exit id'=>id==id'|.ret,.ret=>true|.scope b,.scope b'=>codeOk P N b b'|.cond (.const (.bool true)) t _,.scope x=>codeOk P N t x|.cond (.const (.bool false)) _ e,.scope x=>codeOk P N e x|c,.or a b=>codeOk P N c a&&codeOk P N c b|_,.dead=>true|_,_=>false
def EJ:Code->Ng->List (Nat×CI)|.region _ ops _,.region xs _=>PJ ops.toList xs|.region _ ops _,.U5 r _=>Mm ops r|.seq a b,.seq a' b'=>EJ a a'++EJ b b'|.cond _ t e,.cond _ _ _ t' e'=>EJ t t'++EJ e e'|.block _ b,.block _ b'=>EJ b b'|.loop b,.loop b'=>EJ b b'|.scope b,.scope b'=>EJ b b'|.cond (.const (.bool true)) t _,.scope x=>EJ t x|.cond (.const (.bool false)) _ e,.scope x=>EJ e x|c,.or a b=>EJ c a++EJ c b|_,_=>[]
def Hr(P:Program):List ResultVar->List HU->Bool| [],[]=>true|.tmp t::rs,.tmp t'::xs=>t==t'&&Hr P rs xs|.cell t ty::rs,.cell t' n::xs=>t==t'&&JL P ty n&&Hr P rs xs|.tmp t::rs,.bx t'::xs=>t==t'&&Hr P rs xs|.tmp t::rs,.vw t' _::xs=>t==t'&&Hr P rs xs|.cell t ty::rs,.un t' n::xs=>t==t'&&JL P ty (some n)&&Hr P rs xs|_,_=>false
def Y3(P:Program)(fn:Func)(c:Code):CI->Bool|.mk ms rs body=>decide (ms.length<=fn.ntmps)&&Hr P fn.results.toList rs&&codeOk P fn.ntmps c body&&fn.name != "runtime.NumGoroutine"|.Mj _ _=>false
def AIu(c:Code):CI->List (Nat×CI)|.mk _ _ body=>EJ c body|.Mj _ _=>[]
inductive Mt(A:Nat->Nat->List Md->Prop)(P:Program):Nat->CI->Prop|Mj {n id:Nat} {ms:List Md}:A n id ms->Mt A P n (.Mj id ms)|mk {n:Nat} {f:CI} {fn:Func} {c:Code}:P.funcs[n]?=some fn->fn.body=some c->Y3 P fn c f=true->(∀p∈AIu c f,Mt A P p.1 p.2)->Mt A P n f
def I7:List (Option Nat)->List Value->List Value| [],_=>[]|none::ns,vs=>vs.headD undef::I7 ns (vs.drop 1)|some n::ns,vs=>.agg (vs.take n).toArray::I7 ns (vs.drop n)
def mkV:Sh->List Value->Value|.one,vs=>vs.headD undef|.agg,vs=>.agg vs.toArray|.tup ns,vs=>.tuple (I7 ns vs).toArray|.ptr _,vs=>vs.headD undef|.vw _,vs=>vs.headD undef
structure Fix where
 P:Program
 A:Nat->Nat->List Md->Prop
 R:Nat->Blk
 K:Blk
 RK:∀k b,R k b->K b
 w0:World
 pv:Nat->Value
 β0:Nat->Nat
 N:Nat
structure Gh where
 β:Nat->Nat
 tv:Nat->List Value
 bv:Nat->List Value
 fp:CD->Blk
def Gh.rv(g:Gh):CD->Option Value|.tmp s c=>(g.tv s)[c]?|.cell b c=>(g.bv b)[c]?
def Uy(w:World)(B:Blk)(cs:List T)(v:Value):Prop:=
 ∃(a:Addr) (c:Nat->Value),v=.pointer (some a)/\a.spot=none/\∀j x,cs[j]?=some x->B a.block/\w.cell? ⟨a.block,a.off+j,none⟩=some (c j)/\View w B x (c j)
def AJw(w:World)(B:Blk)(cs:List T)(v:Value):Prop:=
 ∃(a:Addr) (c:Nat->Value) (f:Nat->Blk),v=.pointer (some a)/\a.spot=none /\
  ∀j x,cs[j]?=some x->B a.block/\w.cell? ⟨a.block,a.off+j,none⟩=some (c j)/\(∀b,f j b->B b)/\Own w x (c j) (f j)
def AUE(x:T)(sub:Option (Nat×Nat))(u v:Value):Prop:=
 match sub with
 |none=>v=u|some (lo,n)=>match x with
  |.sl e xs=>(∃blk off len cap off' cap',u=.slice (some ⟨blk,off,none⟩) len cap/\v=.slice (some ⟨blk,off',none⟩) n cap'/\lo+n<=xs.length/\cap'=cap-lo /\
   (cap'≠0->off'=off+lo*e)/\off'<=off+lo*e)\/(u=.slice none 0 0/\v=.slice none 0 0/\xs=[]/\lo=0/\n=0)
  |_=>v=u/\lo=0/\n=0
def FJ(F:Fix)(g:Gh)(w:World):AT->Value->Prop|.t x,v=>Sc x v|.und,v=>v=undef|.vw (.old k) e xs,v=>View w (F.R k) (.sl e xs) v|.vp (.old k) cs,v=>Uy w (F.R k) cs v|.bp id off,v=>v=.pointer (some ⟨g.β id,off,none⟩)|_,_=>False
def CG(S:St)(r:CD):Prop:=∃x,S.at r=some (.ow x)
def AtC(S:St)(g:Gh)(w:World)(r:CD)(p:Option (Nat×Nat))(e:Nat)(xs:List (List T))(v:Value):Prop:=
 match p with
 |none=>True|some (i,j)=>∃e0 rows blk off len cap,S.at r=some (.ow (.sl e0 rows))/\g.rv r=some (.slice (some ⟨blk,off,none⟩) len cap)/\at2 rows i j=some (.sl e xs) /\
  g.fp r blk/\w.cell? ⟨blk,off+i*e0+j,none⟩=some v
def Bt(F:Fix)(S:St)(g:Gh)(w:World)(fp:Blk):AT->Value->Prop
 |.ow x,v=>Own w x v fp|.al r sub,v=>∃x u,S.at r=some (.ow x)/\g.rv r=some u/\AUE x sub u v|.ep r i j,v=>∃e xs blk off len cap,S.at r=some (.ow (.sl e xs))/\g.rv r=some (.slice (some ⟨blk,off,none⟩) len cap)/\i<xs.length /\
  v=.pointer (some ⟨blk,off+i*e+j,none⟩)
 |.vw (.own r p) e xs,v=>CG S r/\(∃S',(∀b,S' b->g.fp r b)/\Own w (.sl e xs) v S')/\AtC S g w r p e xs v|.vp (.own r _) cs,v=>CG S r/\AJw w (g.fp r) cs v|.fn f caps,v=>∃n cv,v=.func (.func n) #[] cv/\Mt F.A F.P n f/\cv.size=caps.length/\∀(i:Nat) (l:AT) (c:Value),caps[i]?=some l->cv[i]?=some c->FJ F g w l c|l,v=>FJ F g w l v
structure Inv(F:Fix)(S:St)(g:Gh)(a:Act)(w:World):Prop where
 Cq:∀r l,S.at r=some l->∃v,g.rv r=some v/\Bt F S g w (g.fp r) l v
 tms:∀s e,get S.tm s=some e->s<F.N/\a.tmps.getD s undef=mkV e.sh (g.tv s)/\(g.tv s).length=e.cs.length
 bxs:∀id ls,get S.bx id=some ls->(∃E,w.heap[g.β id]?=some (.cells (g.bv id).toArray E (0,0)))/\(g.bv id).length=ls.length
 dis:∀r r',CG S r->CG S r'->r≠r'->∀b,g.fp r b->¬g.fp r' b
 FR:∀r id,CG S r->(get S.bx id).isSome->¬g.fp r (g.β id)
 Gu:∀r,CG S r->∀b,g.fp r b->¬F.K b
 GM:∀id id',(get S.bx id).isSome->(get S.bx id').isSome->g.β id=g.β id'->id=id'
 bxR:∀id,(get S.bx id).isSome->¬F.K (g.β id)
 FV:∀b,F.K b->w.heap[b]?=F.w0.heap[b]?
 rlt:∀b,F.K b->b<F.w0.heap.size
 still:Still F.w0 w
 defs:a.defers=[]
 tsz:a.tmps.size=F.N
 pin:∀p∈S.pin,a.tmps.getD p undef=F.pv p/\((get S.bx p).isSome->g.β p=F.β0 p)
theorem Inv.size{F:Fix}{S:St}{g:Gh}{a:Act}{w:World}(h:Inv F S g a w):F.w0.heap.size<=w.heap.size:=h.still.size
section tools
variable{F:Fix}{S S':St}{g g':Gh}{a:Act}{w w':World}
theorem View.same{B:Blk}{x:T}{v:Value}(h:View w B x v)(c:∀b,B b->w'.heap[b]?=w.heap[b]?):View w' B x v:=h.mono (fun _ h=>h) c
theorem LO{b o:Nat}(h:w'.heap[b]?=w.heap[b]?):w'.cell? ⟨b,o,none⟩=w.cell? ⟨b,o,none⟩:=by simp[World.cell?,h]
theorem Uy.same{B:Blk}{cs:List T}{v:Value}(h:Uy w B cs v)(q:∀b,B b->w'.heap[b]?=w.heap[b]?):Uy w' B cs v:=by
 obtain⟨a,c,y,E,G⟩:=h;refine⟨a,c,y,E,fun j x J=>?_⟩;obtain⟨e,H,I⟩:=G j x J;exact⟨e,by rw[LO (q _ e),H],I.same q⟩
theorem AJw.same{B B':Blk}{cs:List T}{v:Value}(h:AJw w B cs v)(hB:∀b,B b->B' b)(E:∀b,B b->w'.heap[b]?=w.heap[b]?):AJw w' B' cs v:=by
 obtain⟨a,c,f,G,H,I⟩:=h;refine⟨a,c,f,G,H,fun j x O=>?_⟩;obtain⟨q,J,y,L⟩:=I j x O;exact⟨hB _ q,by rw[LO (E _ q),J],fun b e=>hB b (y b e),L.frame fun b e=>E b (y b e)⟩
theorem FJ.tr{l:AT}{v:Value}(h:FJ F g w l v)(c:∀id off,l=.bp id off->g'.β id=g.β id)(hR:∀b,F.K b->w'.heap[b]?=w.heap[b]?) :
 FJ F g' w' l v:=by
 unfold FJ at h ⊢;split at h<;>simp_all
 .exact h.same fun b c=>hR b (F.RK _ b c)
 .exact h.same fun b c=>hR b (F.RK _ b c)
theorem Bt.tr{fp:Blk}{l:AT}{v:Value}(h:Bt F S g w fp l v)
 (O:∀r,l.Bz=some r->S'.at r=S.at r/\g'.rv r=g.rv r/\(∀b,g.fp r b->g'.fp r b)/\∀b,g.fp r b->w'.heap[b]?=w.heap[b]?)
 (I:∀id∈names l,g'.β id=g.β id) (hF:∀b,fp b->w'.heap[b]?=w.heap[b]?) (hR:∀b,F.K b->w'.heap[b]?=w.heap[b]?):Bt F S' g' w' fp l v:=by
 match l,h with
 |.ow x,h=>exact Own.frame h hF|.al r sub,⟨x,u,y,E,G⟩=>
  obtain⟨B,H,_,_⟩:=O r rfl;exact⟨x,u,B.trans y,H.trans E,G⟩
 |.ep r i j,⟨e,xs,blk,off,len,cap,y,E,G,X⟩=>
  obtain⟨B,H,_,_⟩:=O r rfl;exact⟨e,xs,blk,off,len,cap,B.trans y,H.trans E,G,X⟩
 |.vw (.own r p) e xs,⟨⟨x,Q⟩,⟨S0,y,E⟩,G⟩=>
  obtain⟨B,H,J,L⟩:=O r rfl;refine⟨⟨x,B.trans Q⟩,⟨S0,fun b I=>J b (y b I),E.frame fun b I=>L b (y b I)⟩,?_⟩;cases p with
  |none=>trivial|some q=>
   obtain⟨i,j⟩:=q;obtain⟨e0,rows,blk,off,len,cap,k1,k2,k3,Z,k5⟩:=G;exact⟨e0,rows,blk,off,len,cap,B.trans k1,H.trans k2,k3,J _ Z,(LO (L _ Z)).trans k5⟩
 |.vp (.own r _) cs,⟨⟨x,Q⟩,y⟩=>
  obtain⟨B,H,J,L⟩:=O r rfl;exact⟨⟨x,B.trans Q⟩,y.same J L⟩
 |.fn f caps,⟨n,cv,y,E,G,X⟩=>
  refine⟨n,cv,y,E,G,fun i l c Y hc=>(X i l c Y hc).tr ?_ hR⟩;rintro id off rfl;refine I id ?_;simp only[names,List.mem_filterMap];exact⟨_,Ap Y,rfl⟩
 |.t x,h=>exact FJ.tr (g:=g) (g':=g') (l:=.t x) h (by simp) hR|.und,h=>exact FJ.tr (g:=g) (g':=g') (l:=.und) h (by simp) hR|.vw (.old k) e xs,h=>exact FJ.tr (g:=g) (g':=g') (l:=.vw (.old k) e xs) h (by simp) hR|.vp (.old k) cs,h=>exact FJ.tr (g:=g) (g':=g') (l:=.vp (.old k) cs) h (by simp) hR|.bp id off,h=>exact FJ.tr (g:=g) (g':=g') (l:=.bp id off) h (by rintro _ _ ⟨⟩;exact I id (by simp[names])) hR
theorem Bt.top{fp:Blk}{v:Value}:Bt F S g w fp (.t .top) v:=trivial
theorem Bt.alive{fp:Blk}{l:AT}{v:Value}(h:Bt F S g w fp l v){r:CD}(c:l.Bz=some r):CG S r:=by
 match l,h with
 |.al r' sub,⟨x,u,y,B,E⟩=>cases c;exact⟨x,y⟩
 |.ep r' i j,⟨e,xs,blk,off,len,cap,y,B,E,G⟩=>cases c;exact⟨_,y⟩
 |.vw (.own r' _) e xs,⟨q,_⟩=>cases c;exact q
 |.vp (.own r' _) cs,⟨q,_⟩=>cases c;exact q
end tools
end Lv
namespace Lv
open Go
section lists
variable{α:Type}
theorem Fv(l:List (Nat×α))(s k:Nat)(a:α):get (put l s a) k=if k=s then some a else get l k:=by
 induction l with
 |nil=>
  grind[put,get]
 |cons p r c=>
  grind[put,get]
theorem FE(q:AT->Bool)(l:List (Nat×Ent))(s:Nat):get (LJ q l) s=(get l s).map fun e=>⟨e.sh,ES q e.cs⟩:=by
 induction l with
 |nil=>rfl|cons p r c=>obtain⟨k,e⟩:=p;simp only[LJ,get,c];split<;>rfl
theorem DL(q:AT->Bool)(l:List (Nat×List AT))(s:Nat):get (LI q l) s=(get l s).map (ES q):=by
 induction l with
 |nil=>rfl|cons p r c=>obtain⟨k,e⟩:=p;simp only[LI,get,c];split<;>rfl
theorem HH(ks:List Nat)(l:List (Nat×α))(s:Nat):get (Gg ks l) s=if s∈ks then get l s else none:=by
 induction l with
 |nil=>simp[Gg,get]|cons p r c=>
  grind[Gg,get]
theorem LU(ks:List Nat)(l:List (Nat×α))(s:Nat):get (Jo ks l) s=if s∈ks then none else get l s:=by
 induction l with
 |nil=>simp[Jo,get]|cons p r c=>
  grind[Jo,get]
theorem GW(q:AT->Bool)(ls:List AT)(c:Nat):(ES q ls)[c]?=(ls[c]?).map fun l=>if q l then .t .top else l:=by
 induction ls generalizing c with
 |nil=>simp[ES]|cons l ls e=>cases c<;>simp[ES,e]
theorem FF(q:AT->Bool)(ls:List AT):(ES q ls).length=ls.length:=by
 induction ls with
 |nil=>rfl|cons l ls c=>simp[ES,c]
end lists
theorem ACk{l:AT}{b c:Nat}(h:l.Bz=some (.cell b c)):l.Lw=some b:=by
 match l,h with
 |.al _ _,h=>cases h;rfl
 |.ep _ _ _,h=>cases h;rfl
 |.vw (.own _ _) _ _,h=>cases h;rfl
 |.vp (.own _ _) _,h=>cases h;rfl
section at_
variable{S:St}
theorem Ha(q:AT->Bool)(r:CD):(S.kill q).at r=(S.at r).map fun l=>if q l then .t .top else l:=by
 cases r with
 |tmp s c=>
  grind[St.at,St.kill,FE,get,GW]
 |cell b c=>
  grind[St.at,St.kill,DL,get,GW]
theorem Ei{r:CD}{H:AT}(h:S.at r=some H)(l:AT)(r':CD):(S.Bi r l).at r'=if r'=r then some l else S.at r':=by
 cases r with
 |tmp s c=>
  simp only[St.at,St.Bi]at h ⊢;cases j:get S.tm s with
  |none=>simp[j]at h|some e=>
   simp only[j]at h ⊢;cases r' with
   |tmp s' q=>
    simp only[Fv];by_cases y:s'=s
    .subst y;simp only[if_true,j];have B:=(AP.1 h).1;rw[Dz];by_cases G:c=q<;>simp_all[eq_comm]
    .simp[y]
   |cell b q=>simp
 |cell b c=>
  simp only[St.at,St.Bi]at h ⊢;cases j:get S.bx b with
  |none=>simp[j]at h|some e=>
   simp only[j]at h ⊢;cases r' with
   |tmp s' q=>simp|cell E q=>
    simp only[Fv];by_cases y:E=b
    .subst y;simp only[if_true,j];have B:=(AP.1 h).1;rw[Dz];by_cases G:c=q<;>simp_all[eq_comm]
    .simp[y]
theorem Lk{r:CD}{l:AT}{s:Nat}{j:Ent}(h:get (S.Bi r l).tm s=some j):∃e,get S.tm s=some e/\j.sh=e.sh/\j.cs.length=e.cs.length:=by
 cases r with
 |tmp q c=>
  grind[St.Bi,Fv]
 |cell b c=>
  grind[St.Bi]
theorem Iz{r:CD}{l:AT}{s:Nat}{ls':List AT}(h:get (S.Bi r l).bx s=some ls'):∃ls,get S.bx s=some ls/\ls'.length=ls.length:=by
 cases r with
 |tmp e c=>
  grind[St.Bi]
 |cell b c=>
  grind[St.Bi,Fv]
theorem G8{r:CD}{l:AT}:(S.Bi r l).pin=S.pin:=by
 cases r<;>simp only[St.Bi]<;>split<;>rfl
theorem Dd{r:CD}{l:AT}{s:Nat}:(get (S.Bi r l).bx s).isSome=(get S.bx s).isSome:=by
 cases r with
 |tmp e c=>simp only[St.Bi];split<;>rfl|cell b c=>
  grind[St.Bi,Fv]
end at_
section moves
variable{F:Fix}{S S':St}{g g':Gh}{a a':Act}{w w':World}
theorem Inv.weaken(h:Inv F S g a w)(B:∀s Q,get S'.tm s=some Q->∃e,get S.tm s=some e/\Q.sh=e.sh/\Q.cs.length=e.cs.length)
 (X:∀id ls',get S'.bx id=some ls'->∃ls,get S.bx id=some ls/\ls'.length=ls.length)
 (h3:∀r l',S'.at r=some l'->l'=.t .top/\(S.at r).isSome\/(S.at r=some l'/\∀O x,l'.Bz=some O->S.at O=some (.ow x)->S'.at O=some (.ow x)))
 (h4:S'.pin=S.pin):Inv F S' g a w:=by
 have j:∀r,CG S' r->CG S r:=by
  rintro r ⟨x,Y⟩;rcases h3 r _ Y with ⟨h,_⟩|⟨h,_⟩
  .cases h
  .exact⟨x,h⟩
 have c:∀id,(get S'.bx id).isSome->(get S.bx id).isSome:=by
  intro id q;obtain⟨ls',hls⟩:=Bj.1 q;obtain⟨ls,h,_⟩:=X _ _ hls;simp[h]
 refine { Cq:=?_,tms:=?_,bxs:=?_,dis:=?_,FR:=?_,Gu:=?_,GM:=?_,bxR:=?_,FV:=h.FV,rlt:=h.rlt,still:=h.still,defs:=h.defs,tsz:=h.tsz,pin:=?_}
 .intro r l' H;rcases h3 r l' H with ⟨rfl,L⟩|⟨L,y⟩
  .obtain⟨l,H⟩:=Bj.1 L;obtain⟨v,hv,_⟩:=h.Cq _ _ H;exact⟨v,hv,Bt.top⟩
  .obtain⟨v,hv,I⟩:=h.Cq _ _ L;refine⟨v,hv,I.tr ?_ (fun _ _=>rfl) (fun _ _=>rfl) fun _ _=>rfl⟩;intro O J;obtain⟨x,Y⟩:=I.alive J;exact⟨(y O x J Y).trans Y.symm,rfl,fun _ h=>h,fun _ _=>rfl⟩
 .intro s Q he;obtain⟨e,Z,he2,he3⟩:=B _ _ he;obtain⟨E,G,h7⟩:=h.tms _ _ Z;exact⟨E,he2▸G,h7.trans he3.symm⟩
 .intro id ls' H;obtain⟨ls,hl1,hl2⟩:=X _ _ H;obtain⟨E,G⟩:=h.bxs _ _ hl1;exact⟨E,G.trans hl2.symm⟩
 .exact fun r r' y hr' hne=>h.dis r r' (j _ y) (j _ hr') hne
 .exact fun r id y q=>h.FR r id (j _ y) (c _ q)
 .exact fun r y=>h.Gu r (j _ y)
 .exact fun id id' B X=>h.GM id id' (c _ B) (c _ X)
 .exact fun id B=>h.bxR id (c _ B)
 .intro p hp;obtain⟨E,G⟩:=h.pin p (h4▸hp);exact⟨E,fun L=>G (c _ L)⟩
theorem Inv.kill(h:Inv F S g a w)(q:AT->Bool)(c:∀x,q (.ow x)=false):Inv F (S.kill q) g a w:=by
 refine h.weaken ?_ ?_ ?_ rfl
 .grind[St.kill,FE,Option.map_eq_some_iff,FF]
 .grind[St.kill,DL,Option.map_eq_some_iff,FF]
 grind[Ha,Option.map_eq_some_iff]
theorem Inv.out(h:Inv F S g a w){r:CD}{x:T}(e:S.at r=some (.ow x)):Inv F (S.out r) g a w:=by
 have c:∀r',(S.out r).at r'=(if r'=r then some (.t .top) else S.at r').map fun l=>if LZ r l then .t .top else l:=by
  intro r';rw[St.out,Ha,Ei e]
 refine h.weaken ?_ ?_ ?_ ?_
 .grind[St.out,St.kill,FE,Option.map_eq_some_iff,Lk,FF]
 .grind[St.out,St.kill,DL,Option.map_eq_some_iff,Iz,FF]
 .grind[Option.map_eq_some_iff,LZ,AT.Bz]
 .rw[St.out];exact G8
theorem IW{r r':CD}{x:T}(q:S.at r=some (.ow x)):CG (S.out r) r'->r'≠r/\CG S r':=by
 rintro⟨y,j⟩;rw[St.out,Ha,Ei q,AO]at j;obtain⟨l,e,c⟩:=j;split at c
 .cases c
 .subst c;split at e
  .cases e
  .rename_i h;exact⟨h,y,e⟩
theorem Inv.clean(h:Inv F S g a w)(ks:List Nat):Inv F (S.clean ks) g a w:=by
 have J:∀r l',(S.clean ks).at r=some l'->∃l,S.at r=some l/\l'=(if Ij ks l then .t .top else l)/\(match r with|.tmp s _=>s∈ks|.cell b _=>b∈ks):=by
  grind[St.at,St.clean,FE,HH,get,GW,Option.map_eq_some_iff,DL]
 have y:∀r x,S.at r=some (.ow x)->(match r with|.tmp s _=>s∈ks|.cell b _=>b∈ks)->(S.clean ks).at r=some (.ow x):=by
  intro r x q I;cases r with
  |tmp s c=>
   simp only[St.at,St.clean,FE,HH]at q I ⊢;simp only[I,if_true];cases B:get S.tm s with
   |none=>simp[B]at q|some e=>simp only[B]at q;simp[GW,q,Ij,LY,AT.Bz,AT.Lw]
  |cell b c=>
   simp only[St.at,St.clean,DL,HH]at q I ⊢;simp only[I,if_true];cases B:get S.bx b with
   |none=>simp[B]at q|some e=>simp only[B]at q;simp[GW,q,Ij,LY,AT.Bz,AT.Lw]
 refine h.weaken ?_ ?_ ?_ rfl
 .intro s Q j;simp only[St.clean,FE,HH,AO]at j;obtain⟨e,j,rfl⟩:=j;split at j
  .exact⟨e,j,rfl,FF _ _⟩
  .cases j
 .intro id ls' G;simp only[St.clean,DL,HH,AO]at G;obtain⟨e,j,rfl⟩:=G;split at j
  .exact⟨e,j,FF _ _⟩
  .cases j
 .intro r l' G;obtain⟨l,L,rfl,X⟩:=J r l' G;split
  .exact .inl ⟨rfl,by simp[L]⟩
  .rename_i H;refine .inr ⟨L,fun O x E q=>y O x q ?_⟩;cases O with
   |tmp s c=>
    simp only[Ij,E,Cj,not_or,decide_eq_true_eq,Decidable.not_not]at H;exact H.1
   |cell b c=>
    have Y:l.Lw=some b:=ACk E;have:LY ks l=false:=by
     simp only[Ij,Cj,not_or]at H;simpa using H.2
    cases l<;>simp_all[LY,AT.Bz]
end moves
end Lv
namespace Lv
open Go
section
variable{F:Fix}{S S':St}{g g':Gh}{a a':Act}{w w':World}
def Rf(F:Fix)(S:St)(g:Gh)(cs:List AT)(nf:Nat->Blk):Prop:=
 ∀c x,cs[c]?=some (.ow x)->(∀b,nf c b->¬F.K b)/\(∀r,CG S r->∀b,nf c b->¬g.fp r b)/\(∀id,(get S.bx id).isSome->¬nf c (g.β id)) /\
  ∀c' x',cs[c']?=some (.ow x')->c≠c'->∀b,nf c b->¬nf c' b
def Cells(F:Fix)(S:St)(g:Gh)(w:World)(cs:List AT)(vs:List Value)(nf:Nat->Blk):Prop:=
 vs.length=cs.length/\(∀c l,cs[c]?=some l->∃v,vs[c]?=some v/\Bt F S g w (nf c) l v)/\Rf F S g cs nf
theorem ADZ{d:Nat}{e:Ent}(r:CD):({ S with tm:=put S.tm d e}:St).at r=match r with|.tmp s c=>if s=d then e.cs[c]? else S.at (.tmp s c)|.cell b c=>S.at (.cell b c):=by
 grind[St.at,Fv]
def Gh.Lj(g:Gh)(d:Nat)(vs:List Value)(nf:Nat->Blk):Gh:=
 { g with tv:=fun s=>if s=d then vs else g.tv s,fp:=fun r=>match r with|.tmp s c=>if s=d then nf c else g.fp (.tmp s c)|.cell b c=>g.fp (.cell b c)}
theorem ACJ{d:Nat}{l:AT}(h:E1 d l=false){r:CD}(e:l.Bz=some r):∀c,r≠.tmp d c:=by
 rintro c rfl;simp[E1,e]at h
theorem Inv.put(h:Inv F S g a w){d:Nat}{e:Ent}{vs:List Value}{nf:Nat->Blk}(hd:d<F.N)(hp:d∉S.pin)
 (hfree:∀r l,S.at r=some l->(∀c,r≠.tmp d c)->E1 d l=false) (hfe:∀l∈e.cs,E1 d l=false) (hc:Cells F S g w e.cs vs nf) :
 Inv F { S with tm:=put S.tm d e} (g.Lj d vs nf) (a.put (some d) (mkV e.sh vs)) w:=by
 obtain⟨hlen,hl,G⟩:=hc;have hrv:∀r,(∀c,r≠.tmp d c)->(g.Lj d vs nf).rv r=g.rv r:=by
  intro r j;cases r with
  |tmp s c=>
   have:s≠d:=by rintro rfl;exact j c rfl
   simp[Gh.rv,Gh.Lj,this]
  |cell b c=>rfl
 have H:∀r,(∀c,r≠.tmp d c)->(g.Lj d vs nf).fp r=g.fp r:=by
  intro r j;cases r with
  |tmp s c=>
   have:s≠d:=by rintro rfl;exact j c rfl
   simp[Gh.Lj,this]
  |cell b c=>rfl
 have Z:∀r,(∀c,r≠.tmp d c)->({ S with tm:=Lv.put S.tm d e}:St).at r=S.at r:=by
  intro r j;rw[ADZ];cases r with
  |tmp s c=>
   have:s≠d:=by rintro rfl;exact j c rfl
   simp[this]
  |cell b c=>rfl
 have tr:∀{fp:Blk} {l:AT} {v:Value},E1 d l=false->Bt F S g w fp l v->Bt F { S with tm:=Lv.put S.tm d e} (g.Lj d vs nf) w fp l v:=by
  intro fp l v hn Q;refine Q.tr ?_ (fun _ _=>rfl) (fun _ _=>rfl) fun _ _=>rfl
  intro r j;have E:=ACJ hn j;exact⟨Z r E,hrv r E,fun b q=>(H r E).symm▸q,fun _ _=>rfl⟩
 have tmpd:∀r:CD,(∃c,r=CD.tmp d c)\/∀c,r≠CD.tmp d c:=by
  intro r;by_cases L:∃c,r=.tmp d c
  .exact .inl L
  .exact .inr fun c hc=>L ⟨c,hc⟩
 have y:∀c,CG { S with tm:=Lv.put S.tm d e} (.tmp d c)->∃x,e.cs[c]?=some (.ow x):=by
  rintro c ⟨x,L⟩;rw[ADZ]at L;exact⟨x,by simpa using L⟩
 have O:∀r,(∀c,r≠.tmp d c)->CG { S with tm:=Lv.put S.tm d e} r->CG S r:=by
  rintro r j ⟨x,L⟩;exact⟨x,(Z r j)▸L⟩
 have fpd:∀c,(g.Lj d vs nf).fp (.tmp d c)=nf c:=fun c=>by simp[Gh.Lj]
 refine { Cq:=?_,tms:=?_,bxs:=h.bxs,dis:=?_,FR:=?_,Gu:=?_,GM:=h.GM,bxR:=h.bxR,FV:=h.FV,rlt:=h.rlt,still:=h.still,defs:=h.defs,tsz:=?_,pin:=?_}
 .intro r l I;rcases tmpd r with ⟨c,rfl⟩|j
  .rw[ADZ]at I;simp only[if_true]at I;obtain⟨v,hv,Q⟩:=hl c l I;refine⟨v,by simpa[Gh.rv,Gh.Lj] using hv,?_⟩;rw[fpd];exact tr (hfe l (Ap I)) Q
  .rw[Z r j]at I;obtain⟨v,hv,Q⟩:=h.Cq r l I;refine⟨v,(hrv r j).trans hv,?_⟩;rw[H r j];exact tr (hfree r l I j) Q
 .intro s e' he;simp only[Fv]at he;by_cases hs:s=d
  .subst hs;simp only[if_true,AD]at he;subst he;refine⟨hd,?_,by simpa[Gh.Lj] using hlen⟩;simp[Act.put,Array.getD,Gh.Lj,h.tsz,hd]
  .simp only[AU hs]at he;obtain⟨J,X,h3⟩:=h.tms s e' he;refine⟨J,?_,by simpa[Gh.Lj,hs] using h3⟩;have:({ a with tmps:=a.tmps.setIfInBounds d (mkV e.sh vs)}:Act).tmps.getD s undef=a.tmps.getD s undef:=by
    simp[Eh,Ne.symm hs]
   simpa[Act.put,Gh.Lj,hs] using this.trans X
 .intro r r' j Y E b q B;rcases tmpd r with ⟨c,rfl⟩|J
  .obtain⟨x,L⟩:=y c j;rw[fpd]at q;rcases tmpd r' with ⟨c',rfl⟩|X
   .obtain⟨x',hx'⟩:=y c' Y;rw[fpd]at B;exact(G c x L).2.2.2 c' x' hx' (by rintro rfl;exact E rfl) b q B
   .rw[H r' X]at B;exact(G c x L).2.1 r' (O r' X Y) b q B
  .rw[H r J]at q;rcases tmpd r' with ⟨c',rfl⟩|X
   .obtain⟨x',hx'⟩:=y c' Y;rw[fpd]at B;exact(G c' x' hx').2.1 r (O r J j) b B q
   .rw[H r' X]at B;exact h.dis r r' (O r J j) (O r' X Y) E b q B
 .intro r id j hid q;rcases tmpd r with ⟨c,rfl⟩|J
  .obtain⟨x,L⟩:=y c j;rw[fpd]at q;exact(G c x L).2.2.1 id hid q
  .rw[H r J]at q;exact h.FR r id (O r J j) hid q
 .intro r j b q;rcases tmpd r with ⟨c,rfl⟩|J
  .obtain⟨x,L⟩:=y c j;rw[fpd]at q;exact(G c x L).1 b q
  .rw[H r J]at q;exact h.Gu r (O r J j) b q
 .simp[Act.put,h.tsz]
 .intro p hpp;obtain⟨J,X⟩:=h.pin p hpp;have E:d≠p:=by rintro rfl;exact hp hpp
  refine⟨?_,X⟩;simp only[Act.put,Eh,Array.getElem?_setIfInBounds,AU E];rw[Eh]at J;exact J
theorem Cells.kill{cs:List AT}{vs:List Value}{nf:Nat->Blk}(h:Cells F S g w cs vs nf)(q:AT->Bool)(X:∀x,q (.ow x)=false) :
 Cells F (S.kill q) g w (ES q cs) vs nf:=by
 obtain⟨I,J,L⟩:=h;have O:∀r,CG (S.kill q) r->CG S r:=by
  rintro r ⟨x,j⟩;rw[Ha,AO]at j;obtain⟨l,y,e⟩:=j;split at e
  .cases e
  .exact⟨x,e▸y⟩
 have B:∀r x,S.at r=some (.ow x)->(S.kill q).at r=some (.ow x):=by
  intro r x j;rw[Ha,j];simp[X]
 have Q:∀id,(get (S.kill q).bx id).isSome->(get S.bx id).isSome:=by
  intro id;simp[St.kill,DL]
 have H:∀(c:Nat) (x:T),(ES q cs)[c]?=some (AT.ow x)->cs[c]?=some (AT.ow x):=by
  intro c x j;rw[GW,AO]at j;obtain⟨l,y,e⟩:=j;split at e
  .cases e
  .exact e▸y
 refine⟨I.trans (FF _ _).symm,?_,?_⟩
 .intro c l y;rw[GW,AO]at y;obtain⟨l0,G,rfl⟩:=y;obtain⟨v,Z,E⟩:=J c l0 G;refine⟨v,Z,?_⟩;split
  .exact Bt.top
  .refine E.tr ?_ (fun _ _=>rfl) (fun _ _=>rfl) fun _ _=>rfl
   intro r Y;obtain⟨x,j⟩:=E.alive Y;exact⟨(B r x j).trans j.symm,rfl,fun _ h=>h,fun _ _=>rfl⟩
 .intro c x j;obtain⟨h4,h5,h6,h7⟩:=L c x (H c x j)
  grind
theorem Inv.D9(h:Inv F S g a w){d:Nat}{e:Ent}{vs:List Value}{nf:Nat->Blk}(j:S.D9 d e=some S')(O:d<F.N)(I:Cells F S g w e.cs vs nf) :
 ∃g',Inv F S' g' (a.put (some d) (mkV e.sh vs)) w:=by
 unfold St.D9 at j;split at j
 .cases j
 .rename_i Q;split at j
  .rename_i Z;cases j;have E:∀{l:AT} {fp:Blk} {v:Value},Bt F S g w fp l v->E1 d l=false:=by
    intro l fp v q;cases H:l.Bz with
    |none=>simp[E1,H]|some r=>
     obtain⟨x,hx⟩:=q.alive H;cases r with
     |tmp s c=>
      have:s≠d:=by rintro rfl;simp[St.at,Z]at hx
      simp[E1,H,this]
     |cell b c=>simp[E1,H]
   refine⟨_,h.put O Q ?_ ?_ I⟩
   .intro r l B _;obtain⟨v,_,q⟩:=h.Cq r l B;exact E q
   .intro l J;obtain⟨c,y⟩:=Bh J;obtain⟨v,_,q⟩:=I.2.1 c l y;exact E q
  .cases j;have X:∀x,E1 d (.ow x)=false:=fun x=>rfl
   have Y:=I.kill (E1 d) X;have G:∀l,E1 d (if E1 d l then .t .top else l)=false:=by
    intro l;split
    .rfl
    .simp_all
   refine⟨_,(h.kill (E1 d) X).put (e:=⟨e.sh,ES (E1 d) e.cs⟩) O Q ?_ ?_ Y⟩
   .intro r l B _;rw[Ha,AO]at B;obtain⟨L,_,rfl⟩:=B;exact G L
   .intro l J;obtain⟨c,y⟩:=Bh J;rw[GW,AO]at y;obtain⟨L,_,rfl⟩:=y;exact G L
theorem Bt.any{fp fp':Blk}{l:AT}{v:Value}(c:∀x,l≠.ow x)(h:Bt F S g w fp l v):Bt F S g w fp' l v:=by
 match l,h with
 |.ow x,h=>exact(c x rfl).elim|.al _ _,h=>exact h|.ep _ _ _,h=>exact h|.vw (.own _ _) _ _,h=>exact h|.vw (.old _) _ _,h=>exact h|.vp (.own _ _) _,h=>exact h|.vp (.old _) _,h=>exact h|.fn _ _,h=>exact h|.t _,h=>exact h|.und,h=>exact h|.bp _ _,h=>exact h
theorem Cells.free{cs:List AT}{vs:List Value}(e:vs.length=cs.length)(h:∀(c:Nat) (l:AT),cs[c]?=some l->∃v,vs[c]?=some v/\Bt F S g w (fun _=>False) l v)
 (j:∀x,AT.ow x∉cs):Cells F S g w cs vs fun _ _=>False:=
 ⟨e,h,fun _ x q=>(j x (Ap q)).elim⟩
theorem Inv.grow(h:Inv F S g a w)(O:Still w w')(G:∀b,b<w.heap.size->w'.heap[b]?=w.heap[b]?):Inv F S g a w':=by
 have hR:∀b,F.K b->w'.heap[b]?=w.heap[b]?:=fun b e=>G b (BR (h.rlt b e) h.size)
 have j:∀r,CG S r->∀b,g.fp r b->w'.heap[b]?=w.heap[b]?:=by
  rintro r ⟨x,H⟩ b e;obtain⟨v,_,c⟩:=h.Cq r _ H;exact G b (Own.lt c b e)
 refine { Cq:=?_,tms:=h.tms,bxs:=?_,dis:=h.dis,FR:=h.FR,Gu:=h.Gu,GM:=h.GM,bxR:=h.bxR,FV:=?_,rlt:=h.rlt,still:=h.still.trans O,defs:=h.defs,tsz:=h.tsz,pin:=h.pin}
 .intro r l y;obtain⟨v,J,c⟩:=h.Cq r l y;by_cases q:∃x,l=.ow x
  .obtain⟨x,rfl⟩:=q;exact⟨v,J,Own.frame c (j r ⟨x,y⟩)⟩
  .have I:∀x,l≠.ow x:=fun x H=>q ⟨x,H⟩
   exact⟨v,J,Bt.any I ((Bt.any (fp':=fun _=>False) I c).tr (S':=S) (g':=g) (w':=w') (fun Q B=>⟨rfl,rfl,fun _ h=>h,j Q (c.alive B)⟩) (fun _ _=>rfl) (fun _ h=>h.elim) hR)⟩
 .intro id ls y;obtain⟨⟨E,hE⟩,L⟩:=h.bxs id ls y;exact⟨⟨E,(G _ (A1.1 hE).1).trans hE⟩,L⟩
 .intro b e;exact(hR b e).trans (h.FV b e)
theorem Inv.drawn(h:Inv F S g a w)(n:Nat):Inv F S g a { w with drawn:=n}:=h.grow (Still.drawn n) fun _ _=>rfl
theorem RD{x:T}{u v:Value}{fp:Blk}{sub:Option (Nat×Nat)}(h:Own w x u fp)(j:AUE x sub u v):∃S0:Blk,(∀b,S0 b->fp b)/\Own w (nU sub x) v S0:=by
 cases sub with
 |none=>
  simp only[AUE]at j;subst j;exact⟨fp,fun _ h=>h,by cases x<;>exact h⟩
 |some p=>
  obtain⟨lo,n⟩:=p;cases x with
  |sl e xs=>
   simp only[AUE]at j;obtain⟨blk,off,len,cap,off',cap',rfl,rfl,q,y,E,G⟩|⟨rfl,rfl,rfl,rfl,rfl⟩:=j
   case inr=>exact⟨fp,fun _ h=>h,by simpa[nU,Jg] using h⟩
   have B:len=xs.length/\len<=cap:=by
    cases h with
    |sc h _ _=>exact h.elim|sl c f q y=>exact⟨q,y⟩
   exact h.sub (lo:=lo) (n:=n) (by omega) (by omega) (by omega) E G
  |top=>obtain⟨rfl,_⟩:=j;exact⟨fp,fun _ h=>h,h⟩
  |int k n=>obtain⟨rfl,_⟩:=j;exact⟨fp,fun _ h=>h,h⟩
  |bool b=>obtain⟨rfl,_⟩:=j;exact⟨fp,fun _ h=>h,h⟩
  |str s=>obtain⟨rfl,_⟩:=j;exact⟨fp,fun _ h=>h,h⟩
  |nil=>obtain⟨rfl,_⟩:=j;exact⟨fp,fun _ h=>h,h⟩
  |np=>obtain⟨rfl,_⟩:=j;exact⟨fp,fun _ h=>h,h⟩
  |un=>obtain⟨rfl,_⟩:=j;exact⟨fp,fun _ h=>h,h⟩
  |mp ks=>obtain⟨rfl,_⟩:=j;exact⟨fp,fun _ h=>h,h⟩
theorem AFk{r:CD}{x:T}(e:S.at r=some (.ow x)){r':CD}{y:T}(c:r'≠r)(h:S.at r'=some (.ow y)):(S.out r).at r'=some (.ow y):=by
 rw[St.out,Ha,Ei e,AU c,h];simp[LZ,AT.Bz]
theorem VR{r:CD}{id:Nat}:(get (S.out r).bx id).isSome->(get S.bx id).isSome:=by
 grind[St.out,St.kill,DL,Option.isSome_map,Dd]
theorem wg{r:CD}:(S.out r).pin=S.pin:=by rw[St.out];exact G8
theorem Bt.out{fp:Blk}{l:AT}{v:Value}(h:Bt F S g w fp l v){r:CD}{x:T}(j:S.at r=some (.ow x))(e:l.Bz≠some r):Bt F (S.out r) g w fp l v:=by
 refine h.tr ?_ (fun _ _=>rfl) (fun _ _=>rfl) fun _ _=>rfl
 intro B c;obtain⟨y,q⟩:=h.alive c
 grind[AFk]
structure Rg(F:Fix)(S S':St)(g:Gh)(a:Act)(w:World):Prop where
 inv:Inv F S' g a w
 same:∀r x,S'.at r=some (.ow x)->S.at r=some (.ow x)
 bx:∀id,(get S'.bx id).isSome->(get S.bx id).isSome
 pin:S'.pin=S.pin
theorem Rg.al(h:Rg F S S' g a w):∀r,CG S' r->CG S r:=fun r ⟨x,c⟩=>⟨x,h.same r x c⟩
theorem lY{r r':CD}{x y:T}(c:S.at r=some (.ow x))(e:(S.out r).at r'=some (.ow y)):S.at r'=some (.ow y):=by
 grind[St.out,Ha,Ei,Option.map_eq_some_iff]
theorem ATn{ls ls':List AT}{vs:List Value}(h:Inv F S g a w)(hn:∀x,AT.ow x∉ls)(E:vs.length=ls.length)
 (hok:∀(c:Nat) (l:AT),ls[c]?=some l->∃v,vs[c]?=some v/\Bt F S g w (fun _=>False) l v) (htk:OK ls=true) (J:Jw S ls=some (S',ls')) :
 Rg F S S' g a w/\(∀fp l v,Bt F S g w fp l v->(∀r sub,AT.al r sub∈ls->l.Bz≠some r)->Bt F S' g w fp l v) /\
 ∃nf:Nat->Blk,Cells F S' g w ls' vs nf/\∀c x,ls'[c]?=some (.ow x)->∃r,CG S r/\∀b,nf c b->g.fp r b:=by
 induction ls generalizing S S' ls' vs with
 |nil=>
  simp only[Jw,AD,A0]at J;obtain⟨rfl,rfl⟩:=J;refine⟨⟨h,fun _ _ h=>h,fun _ h=>h,rfl⟩,fun _ _ _ h _=>h,fun _ _=>False,⟨E,?_,?_⟩,?_⟩
  .intro c l hl;simp at hl
  .intro c x q;simp at q
  .intro c x q;simp at q
 |cons l ls ih=>
  obtain⟨v,vs,rfl⟩:∃v vs',vs=v::vs':=by cases vs with|nil=>simp at E|cons v vs=>exact⟨v,vs,rfl⟩
  simp only[AH,HO]at E;simp only[OK,AF,List.all_eq_true,Bool.not_eq_true',IJ,decide_eq_false_iff_not]at htk;obtain⟨htk1,htk2⟩:=htk;have hn':∀x,AT.ow x∉ls:=fun x q=>hn x (Ax _ q)
  have hl0:Bt F S g w (fun _=>False) l v:=by
   obtain⟨v',I,Q⟩:=hok 0 l rfl;simp only[AM,AD]at I;exact I▸Q
  by_cases hal:∃r sub,l=.al r sub
  .obtain⟨r,sub,rfl⟩:=hal;obtain⟨x,u,q,hu,hsub⟩:=hl0;simp only[Jw,q]at J;have hother:∀l'∈ls,l'.Bz≠some r:=by
    intro l' e hr;rcases htk1 l' e with O|O
    .simp[vS]at O
    .exact O hr.symm
   split at J
   .rename_i S1 ls1 heq;simp only[AD,A0]at J;obtain⟨rfl,rfl⟩:=J;obtain⟨htaken,Z,nf,hcells,Y⟩:=ih (S:=S.out r) (S':=S1) (ls':=ls1) (vs:=vs) (h.out q) hn' E (by
     intro c l' e;obtain⟨v',I,Q⟩:=hok (c+1) l' (by simpa using e);exact⟨v',by simpa using I,Q.out q (hother l' (Ap e))⟩) htk2 heq
    have hown:Own w x u (g.fp r):=by
     obtain⟨u',hu',Q⟩:=h.Cq r _ q;rw[hu]at hu';cases hu';exact Q
    obtain⟨S0,hS0,hO⟩:=RD hown hsub;refine⟨⟨htaken.inv,fun r' y H=>lY q (htaken.same r' y H),fun id hid=>VR (htaken.bx id hid),htaken.pin.trans wg⟩,?_,fun c=>match c with|0=>S0|c+1=>nf c,⟨?_,?_,?_⟩,?_⟩
    .intro fp l' v' Q j;exact Z fp l' v' (Q.out q (j r sub (by simp))) fun r2 sub2 hm=>j r2 sub2 (Ax _ hm)
    .simpa using hcells.1
    .intro c l' e;cases c with|zero=>simp only[AM,AD]at e;subst e;exact⟨v,rfl,hO⟩|succ c=>exact hcells.2.1 c l' (by simpa using e)
    .have hself:(∀b,S0 b->¬F.K b)/\(∀r',CG S1 r'->∀b,S0 b->¬g.fp r' b)/\(∀id,(get S1.bx id).isSome->¬S0 (g.β id)):=by
      refine⟨fun b G=>h.Gu r ⟨x,q⟩ b (hS0 b G),fun r' j b G=>?_,fun id hid G=>?_⟩
      .have:=IW q (htaken.al r' j);exact h.dis r r' ⟨x,q⟩ this.2 (Ne.symm this.1) b (hS0 b G)
      .exact h.FR r id ⟨x,q⟩ (VR (htaken.bx id hid)) (hS0 _ G)
     have hcross:∀c X,ls1[c]?=some (.ow X)->∀b,S0 b->¬nf c b:=by
      intro c X B b G hb';obtain⟨r',j,hsubs⟩:=Y c X B;have:=IW q j;exact h.dis r r' ⟨x,q⟩ this.2 (Ne.symm this.1) b (hS0 b G) (hsubs b hb')
     intro c y H;cases c with
     |zero=>
      refine⟨hself.1,hself.2.1,hself.2.2,?_⟩;intro L X B hne b G;cases L with
      |zero=>exact(hne rfl).elim|succ L=>exact hcross L X (by simpa using B) b G
     |succ c=>
      obtain⟨O,h2,h3,h4⟩:=hcells.2.2 c y (by simpa using H);refine⟨O,h2,h3,?_⟩;intro L X B hne b G;cases L with
      |zero=>exact fun hb'=>hcross c y (by simpa using H) b hb' G|succ L=>exact h4 L X (by simpa using B) (by omega) b G
    .intro c y H;cases c with
     |zero=>exact⟨r,⟨x,q⟩,hS0⟩|succ c=>
      obtain⟨r',j,hsubs⟩:=Y c y (by simpa using H);exact⟨r',(IW q j).2,hsubs⟩
   .cases J
  .have htg:Jw S (l::ls)=match Jw S ls with|some (S',ls')=>some (S',l::ls')|none=>none:=by
    cases l<;>first|rfl|exact(hal ⟨_,_,rfl⟩).elim
   rw[htg]at J;split at J
   .rename_i S1 ls1 heq;simp only[AD,A0]at J;obtain⟨rfl,rfl⟩:=J;obtain⟨htaken,Z,nf,hcells,Y⟩:=ih (S:=S) (S':=S1) (ls':=ls1) (vs:=vs) h hn' E (by
     intro c l' e;obtain⟨v',I,Q⟩:=hok (c+1) l' (by simpa using e);exact⟨v',by simpa using I,Q⟩) htk2 heq
    have hno:∀x,l≠.ow x:=by rintro x rfl;exact hn x (by simp)
    refine⟨htaken,?_,fun c=>match c with|0=>fun _=>False|c+1=>nf c,⟨by simpa using hcells.1,?_,?_⟩,?_⟩
    .intro fp l' v' Q j;exact Z fp l' v' Q fun r2 sub2 hm=>j r2 sub2 (Ax _ hm)
    .intro c l' e;cases c with
     |zero=>
      simp only[AM,AD]at e;subst e;refine⟨v,rfl,Z _ _ _ hl0 ?_⟩;intro r sub hm hr;rcases htk1 _ hm with O|O
      .simp[vS]at O
      .exact O hr
     |succ c=>exact hcells.2.1 c l' (by simpa using e)
    .intro c y H;cases c with
     |zero=>simp only[AM,AD]at H;exact(hno y H).elim|succ c=>
      obtain⟨O,h2,h3,h4⟩:=hcells.2.2 c y (by simpa using H);refine⟨O,h2,h3,?_⟩;intro L X B hne b G;cases L with
      |zero=>simp only[AM,AD]at B;exact(hno X B).elim|succ L=>exact h4 L X (by simpa using B) (by omega) b G
    .intro c y H;cases c with|zero=>simp only[AM,AD]at H;exact(hno y H).elim|succ c=>exact Y c y (by simpa using H)
   .cases J
def Gh.F3(g:Gh)(d blk:Nat)(vs:List Value)(nf:Nat->Blk):Gh:=
 { g with β:=fun i=>if i=d then blk else g.β i,bv:=fun i=>if i=d then vs else g.bv i,fp:=fun r=>match r with|.cell b c=>if b=d then nf c else g.fp (.cell b c)|.tmp s c=>g.fp (.tmp s c)}
theorem M7{d:Nat}{ls:List AT}(r:CD):({ S with bx:=put S.bx d ls}:St).at r=match r with|.cell b c=>if b=d then ls[c]? else S.at (.cell b c)|.tmp s c=>S.at (.tmp s c):=by
 grind[St.at,Fv]
theorem Inv.AJW(h:Inv F S g a w){d blk:Nat}{E:TypeId}{vs:List Value}{ls:List AT}{nf:Nat->Blk}
 (hs:Still w w') (hw:∀b,b≠blk->b<w.heap.size->w'.heap[b]?=w.heap[b]?) (hblk:w'.heap[blk]?=some (.cells vs.toArray E (0,0)))
 (hK:¬F.K blk) (hfpb:∀r,CG S r->¬g.fp r blk) (hβ:∀id,id≠d->(get S.bx id).isSome->g.β id≠blk)
 (hnames:g.β d=blk\/(∀r l,S.at r=some l->(∀c,r≠.cell d c)->d∉names l)/\∀l∈ls,d∉names l)
 (hroots:∀l,(l∈ls\/∃r,S.at r=some l/\∀c,r≠.cell d c)->∀c x,l.Bz=some (.cell d c)->S.at (.cell d c)=some (.ow x) ->
  ls[c]?=some (.ow x)/\vs[c]?=(g.bv d)[c]?/\∀b,g.fp (.cell d c) b->nf c b)
 (hlen:vs.length=ls.length) (hl:∀(c:Nat) (l:AT),ls[c]?=some l->∃v,vs[c]?=some v/\Bt F S g w (nf c) l v)
 (I:∀(c:Nat) x,ls[c]?=some (.ow x)->(∀b,nf c b->¬F.K b)/\(∀r,CG S r->(∀c',r≠.cell d c')->∀b,nf c b->¬g.fp r b) /\
  (∀id,(get S.bx id).isSome->id≠d->¬nf c (g.β id))/\¬nf c blk/\∀(c':Nat) x',ls[c']?=some (.ow x')->c≠c'->∀b,nf c b->¬nf c' b)
 (hpin:d∈S.pin->(get S.bx d).isSome/\g.β d=blk):Inv F { S with bx:=Lv.put S.bx d ls} (g.F3 d blk vs nf) a w':=by
 have tmpd:∀r:CD,(∃c,r=CD.cell d c)\/∀c,r≠CD.cell d c:=by
  intro r;by_cases y:∃c,r=CD.cell d c
  .exact .inl y
  .exact .inr fun c hc=>y ⟨c,hc⟩
 have hrv:∀r,(∀c,r≠.cell d c)->(g.F3 d blk vs nf).rv r=g.rv r:=by
  intro r q;cases r with
  |tmp s c=>rfl|cell b c=>
   have:b≠d:=by rintro rfl;exact q c rfl
   simp[Gh.rv,Gh.F3,this]
 have X:∀r,(∀c,r≠.cell d c)->(g.F3 d blk vs nf).fp r=g.fp r:=by
  intro r q;cases r with
  |tmp s c=>rfl|cell b c=>
   have:b≠d:=by rintro rfl;exact q c rfl
   simp[Gh.F3,this]
 have hat:∀r,(∀c,r≠.cell d c)->({ S with bx:=Lv.put S.bx d ls}:St).at r=S.at r:=by
  intro r q;rw[M7];cases r with
  |tmp s c=>rfl|cell b c=>
   have:b≠d:=by rintro rfl;exact q c rfl
   simp[this]
 have fpd:∀c,(g.F3 d blk vs nf).fp (.cell d c)=nf c:=fun c=>by simp[Gh.F3]
 have hKw:∀b,F.K b->w'.heap[b]?=w.heap[b]?:=fun b e=>hw b (by rintro rfl;exact hK e) (BR (h.rlt b e) h.size)
 have hfw:∀r,CG S r->∀b,g.fp r b->w'.heap[b]?=w.heap[b]?:=by
  rintro r ⟨x,y⟩ b e;obtain⟨v,_,H⟩:=h.Cq r _ y;exact hw b (by rintro rfl;exact hfpb r ⟨x,y⟩ e) (Own.lt H b e)
 have tr:∀{fp:Blk} {l:AT} {v:Value},(l∈ls\/∃r,S.at r=some l/\∀c,r≠.cell d c)->(∀x,l=.ow x->∀b,fp b->w'.heap[b]?=w.heap[b]?) ->
  Bt F S g w fp l v->Bt F { S with bx:=Lv.put S.bx d ls} (g.F3 d blk vs nf) w' fp l v:=by
  intro fp l v hmem hfpw H;by_cases how:∃x,l=.ow x
  .obtain⟨x,rfl⟩:=how;exact Own.frame H (hfpw x rfl)
  .have hn:∀x,l≠.ow x:=fun x y=>how ⟨x,y⟩
   refine Bt.any hn ((Bt.any (fp':=fun _=>False) hn H).tr ?_ ?_ (fun _ h=>h.elim) hKw)
   .intro r q;obtain⟨x,y⟩:=H.alive q;rcases tmpd r with ⟨c,rfl⟩|Z
    .obtain⟨G,O,h3⟩:=hroots l hmem c x q y;refine⟨?_,?_,?_,hfw _ ⟨x,y⟩⟩
     .rw[M7];simpa using G.trans y.symm
     .simpa[Gh.rv,Gh.F3] using O
     .intro b e;rw[fpd];exact h3 b e
    .exact⟨hat r Z,hrv r Z,fun b e=>(X r Z).symm▸e,hfw r ⟨x,y⟩⟩
   .intro id j;by_cases B:id=d
    .subst B;rcases hnames with e|⟨G,O⟩
     .simp[Gh.F3,e]
     .rcases hmem with hm|⟨r,q,Z⟩
      .exact(O l hm j).elim
      .exact(G r l q Z j).elim
    .simp[Gh.F3,B]
 have J:∀c,CG { S with bx:=Lv.put S.bx d ls} (.cell d c)->∃x,ls[c]?=some (.ow x):=by
  rintro c ⟨x,y⟩;rw[M7]at y;exact⟨x,by simpa using y⟩
 have hal:∀r,(∀c,r≠.cell d c)->CG { S with bx:=Lv.put S.bx d ls} r->CG S r:=by
  rintro r q ⟨x,y⟩;exact⟨x,(hat r q)▸y⟩
 have hsome:∀id,id≠d->(get (Lv.put S.bx d ls) id).isSome->(get S.bx id).isSome:=by
  intro id j hs;rw[Fv,AU j]at hs;exact hs
 have hβd:(g.F3 d blk vs nf).β d=blk:=by simp[Gh.F3]
 have hβo:∀id,id≠d->(g.F3 d blk vs nf).β id=g.β id:=fun id j=>by simp[Gh.F3,j]
 have hnlt:∀(c:Nat) x,ls[c]?=some (.ow x)->∀b,nf c b->w'.heap[b]?=w.heap[b]?:=by
  intro c x y b e;obtain⟨v,_,H⟩:=hl c _ y;exact hw b (by rintro rfl;exact(I c x y).2.2.2.1 e) (Own.lt H b e)
 refine { Cq:=?_,tms:=h.tms,bxs:=?_,dis:=?_,FR:=?_,Gu:=?_,GM:=?_,bxR:=?_,FV:=fun b e=>(hKw b e).trans (h.FV b e),rlt:=h.rlt,still:=h.still.trans hs,defs:=h.defs,tsz:=h.tsz,pin:=?_}
 .intro r l L;rcases tmpd r with ⟨c,rfl⟩|q
  .rw[M7]at L;simp only[if_true]at L;obtain⟨v,hv,H⟩:=hl c l L;refine⟨v,by simpa[Gh.rv,Gh.F3] using hv,?_⟩;rw[fpd];exact tr (.inl (Ap L)) (by rintro x rfl;exact hnlt c x L) H
  .rw[hat r q]at L;obtain⟨v,hv,H⟩:=h.Cq r l L;refine⟨v,(hrv r q).trans hv,?_⟩;rw[X r q];exact tr (.inr ⟨r,L,q⟩) (by rintro x rfl;exact hfw r ⟨x,L⟩) H
 .intro id ls' hls;simp only[Fv]at hls;by_cases j:id=d
  .subst j;simp only[if_true,AD]at hls;subst hls;exact⟨⟨E,by simpa[Gh.F3] using hblk⟩,by simpa[Gh.F3] using hlen⟩
  .simp only[AU j]at hls;obtain⟨⟨E',hE⟩,O⟩:=h.bxs id ls' hls;refine⟨⟨E',?_⟩,by simpa[Gh.F3,j] using O⟩;rw[hβo id j,hw _ (hβ id j (by simp[hls])) (A1.1 hE).1,hE];simp[Gh.F3,j]
 .intro r r' q hr' Z b e Q;rcases tmpd r with ⟨c,rfl⟩|G
  .obtain⟨x,y⟩:=J c q;rw[fpd]at e;rcases tmpd r' with ⟨c',rfl⟩|O
   .obtain⟨x',hx'⟩:=J c' hr';rw[fpd]at Q;exact(I c x y).2.2.2.2 c' x' hx' (by rintro rfl;exact Z rfl) b e Q
   .rw[X r' O]at Q;exact(I c x y).2.1 r' (hal r' O hr') O b e Q
  .rw[X r G]at e;rcases tmpd r' with ⟨c',rfl⟩|O
   .obtain⟨x',hx'⟩:=J c' hr';rw[fpd]at Q;exact(I c' x' hx').2.1 r (hal r G q) G b Q e
   .rw[X r' O]at Q;exact h.dis r r' (hal r G q) (hal r' O hr') Z b e Q
 .intro r id q j e;by_cases B:id=d
  .subst B;rw[hβd]at e;rcases tmpd r with ⟨c,rfl⟩|G
   .obtain⟨x,y⟩:=J c q;rw[fpd]at e;exact(I c x y).2.2.2.1 e
   .rw[X r G]at e;exact hfpb r (hal r G q) e
  .rw[hβo id B]at e;rcases tmpd r with ⟨c,rfl⟩|G
   .obtain⟨x,y⟩:=J c q;rw[fpd]at e;exact(I c x y).2.2.1 id (hsome id B j) B e
   .rw[X r G]at e;exact h.FR r id (hal r G q) (hsome id B j) e
 .intro r q b e;rcases tmpd r with ⟨c,rfl⟩|G
  .obtain⟨x,y⟩:=J c q;rw[fpd]at e;exact(I c x y).1 b e
  .rw[X r G]at e;exact h.Gu r (hal r G q) b e
 .intro id id' G O he;by_cases hi:id=d
  .by_cases Y:id'=d
   .exact hi.trans Y.symm
   .subst hi;rw[hβd,hβo id' Y]at he;exact(hβ id' Y (hsome id' Y O) he.symm).elim
  .by_cases Y:id'=d
   .subst Y;rw[hβd,hβo id hi]at he;exact(hβ id hi (hsome id hi G) he).elim
   .rw[hβo id hi,hβo id' Y]at he;exact h.GM id id' (hsome id hi G) (hsome id' Y O) he
 .intro id G;by_cases hi:id=d
  .subst hi;rw[hβd];exact hK
  .rw[hβo id hi];exact h.bxR id (hsome id hi G)
 .intro p hp;obtain⟨G,O⟩:=h.pin p hp;refine⟨G,fun hsm=>?_⟩;by_cases hi:p=d
  .subst hi;rw[hβd];exact(hpin hp).2.symm.trans (O (hpin hp).1)
  .rw[hβo p hi];exact O (hsome p hi hsm)
end
theorem OG{α:Type}(ls:List α)(o:Nat)(cs:List α):(Dr ls o cs).length=ls.length:=by
 induction cs generalizing ls o with
 |nil=>rfl|cons c cs e=>simp[Dr,e]
theorem Gj{α:Type}(ls:List α)(o:Nat)(cs:List α)(h:o+cs.length<=ls.length)(c:Nat) :
 (Dr ls o cs)[c]?=if o<=c/\c<o+cs.length then cs[c-o]? else ls[c]?:=by
 induction cs generalizing ls o with
 |nil=>simp only[Dr,AN,C3];rw[AU (by omega)]|cons x cs e=>
  grind[Dr,List.length_cons]
theorem Na{α:Type}(ls:List α)(o:Nat)(cs:List α)(h:o+cs.length<=ls.length):Dr ls o cs=ls.take o++cs++ls.drop (o+cs.length):=by
 apply List.ext_getElem?;intro c;rw[Gj ls o cs h,CC,Ic,Ic]
 grind[List.length_take,min]
section
variable{F:Fix}{S S':St}{g g':Gh}{a a':Act}{w w':World}
theorem Zi{d:Nat}{l:AT}(h:Fp d l=false):d∉names l:=by
 cases l with
 |bp id off=>simp[Fp,AT.Lw]at h;simp[names,Ne.symm h]|fn f caps=>
  grind[Fp,List.any_eq_false,names,AT.Lw]
 |_=>simp[names]
theorem OC{d c:Nat}{l:AT}(h:Fp d l=false):l.Bz≠some (.cell d c):=by
 intro e;have:=ACk e;cases l<;>simp_all[Fp,AT.Bz]
theorem LW(q:AT->Bool)(c:q (.t .top)=false){r:CD}{l:AT}(h:(S.kill q).at r=some l):q l=false:=by
 grind[Ha,Option.map_eq_some_iff]
theorem Q5(q:AT->Bool)(c:q (.t .top)=false){ls:List AT}{l:AT}(h:l∈ES q ls):q l=false:=by
 grind[List.getElem?_of_mem,GW,Option.map_eq_some_iff]
theorem Cells.grow{cs:List AT}{vs:List Value}{nf:Nat->Blk}(h:Inv F S g a w)(y:Cells F S g w cs vs nf)
 (G:∀b,b<w.heap.size->w'.heap[b]?=w.heap[b]?):Cells F S g w' cs vs nf:=by
 refine⟨y.1,?_,y.2.2⟩;intro c l J;obtain⟨v,L,e⟩:=y.2.1 c l J;refine⟨v,L,?_⟩;have B:∀r,CG S r->∀b,g.fp r b->w'.heap[b]?=w.heap[b]?:=by
  rintro r ⟨x,H⟩ b j;obtain⟨v,_,e⟩:=h.Cq r _ H;exact G b (Own.lt e b j)
 by_cases q:∃x,l=.ow x
 .obtain⟨x,rfl⟩:=q;exact Own.frame e fun b j=>G b (Own.lt e b j)
 .have I:∀x,l≠.ow x:=fun x H=>q ⟨x,H⟩
  exact Bt.any I ((Bt.any (fp':=fun _=>False) I e).tr (S':=S) (g':=g) (w':=w') (fun O E=>⟨rfl,rfl,fun _ h=>h,B O (e.alive E)⟩) (fun _ _=>rfl) (fun _ h=>h.elim)
   fun b j=>G b (BR (h.rlt b j) h.size))
def World.push(w:World)(o:Obj):World:={ w with heap:=w.heap.push o}
theorem E9{o:Obj}{b:Nat}(c:b<w.heap.size):(World.push w o).heap[b]?=w.heap[b]?:=by
 show (w.heap.push o)[b]?=_;rw[GY,AU (Mr c)]
theorem MP{o:Obj}:(World.push w o).heap[w.heap.size]?=some o:=by
 show (w.heap.push o)[w.heap.size]?=_;rw[GY,AX rfl]
theorem Still.push{o:Obj}:Still w (World.push w o):=Still.alloc
def Mi(d:Nat)(l:AT):Bool:=E1 d l||Fp d l
theorem Inv.ARi(h:Inv F S g a w){d:Nat}(hd:d<F.N)(hp:d∉S.pin){cs:List AT}{vs:List Value}{nf:Nat->Blk}(hc:Cells F S g w cs vs nf)(E:TypeId) :
 ∃g',Inv F { S.kill (Mi d) with tm:=Lv.put (S.kill (Mi d)).tm d ⟨.one,[.bp d 0]⟩,bx:=Lv.put (S.kill (Mi d)).bx d (ES (Mi d) cs)} g'
  (a.put (some d) (.pointer (some ⟨w.heap.size,0,none⟩))) (World.push w (.cells vs.toArray E (0,0))):=by
 have hq:∀x,Mi d (.ow x)=false:=fun x=>rfl
 have B:Mi d (.t .top)=false:=rfl;have j:∀{l},Mi d l=false->Fp d l=false/\E1 d l=false:=by
  intro l q;simp only[Mi,Bool.or_eq_false_iff]at q;exact⟨q.2,q.1⟩
 have Q:=h.kill (Mi d) hq;have y:=hc.kill (Mi d) hq;have Y:∀r,CG (S.kill (Mi d)) r->¬g.fp r w.heap.size:=by
  rintro r ⟨x,G⟩ J;obtain⟨v,_,I⟩:=Q.Cq r _ G;exact Iy _ (Own.lt I _ J)
 have L:∀(c:Nat) x,(ES (Mi d) cs)[c]?=some (.ow x)->¬nf c w.heap.size:=by
  intro c x G J;obtain⟨v,_,I⟩:=y.2.1 c _ G;exact Iy _ (Own.lt I _ J)
 have h2:=Q.AJW (d:=d) (blk:=w.heap.size) (E:=E) (vs:=vs) (ls:=ES (Mi d) cs) (nf:=nf) (w':=World.push w (.cells vs.toArray E (0,0)))
  Still.push (fun b _ J=>E9 J) MP (fun hK=>Iy _ (BR (h.rlt _ hK) h.size)) Y
  (by
   intro id _ H he;obtain⟨ls,X⟩:=Bj.1 H;obtain⟨⟨E',hE⟩,_⟩:=Q.bxs id ls X;rw[he]at hE;simp at hE)
  (.inr ⟨fun r l q _=>Zi (j (LW _ B q)).1,fun l q=>Zi (j (Q5 _ B q)).1⟩)
  (by
   rintro l (q|⟨r,q,_⟩) c x O _
   .exact(OC (j (Q5 _ B q)).1 O).elim
   .exact(OC (j (LW _ B q)).1 O).elim)
  y.1 y.2.1 (fun c x G=>⟨(y.2.2 c x G).1,fun r O _=>(y.2.2 c x G).2.1 r O,fun id H _=>(y.2.2 c x G).2.2.1 id H,L c x G,(y.2.2 c x G).2.2.2⟩)
  (fun Z=>(hp Z).elim)
 refine⟨_,h2.put (d:=d) (e:=⟨.one,[.bp d 0]⟩) (vs:=[.pointer (some ⟨w.heap.size,0,none⟩)]) (nf:=fun _ _=>False) hd hp ?_ ?_ ?_⟩
 .intro r l q _;rw[M7]at q;cases r with
  |tmp s c=>exact(j (LW _ B q)).2|cell b c=>
   simp only at q;split at q
   .exact(j (Q5 _ B (Ap q))).2
   .exact(j (LW _ B q)).2
 .simp[E1,AT.Bz]
 .refine Cells.free rfl ?_ (by simp);intro c l q;cases c with|zero=>simp only[AM,AD]at q;subst q;exact⟨_,rfl,by show _=_;simp[Gh.F3]⟩|succ c=>simp at q
theorem ACs{blk:Nat}{cur new:Array Value}{E:TypeId}(h:w.heap[blk]?=some (.cells cur E (0,0))):(w.setRow blk new).heap[blk]?=some (.cells new E (0,0)):=by
 simp[World.setRow,Fx,h]
theorem setRow_other{blk b:Nat}{new:Array Value}(h:b≠blk):(w.setRow blk new).heap[b]?=w.heap[b]?:=by
 simp[World.setRow,Fx,Ne.symm h]
theorem Inv.ATg(h:Inv F S g a w){cs:List AT}{vs:List Value}{nf:Nat->Blk}(hc:Cells F S g w cs vs nf){id o:Nat}{ls:List AT}
 (hls:get (S.kill (IE id o cs.length)).bx id=some ls) (hle:o+cs.length<=ls.length) :
 ∃g',Inv F { S.kill (IE id o cs.length) with bx:=Lv.put (S.kill (IE id o cs.length)).bx id (Dr ls o (ES (IE id o cs.length) cs))} g' a
  (w.setRow (g.β id) ((g.bv id).take o++vs++(g.bv id).drop (o+vs.length)).toArray):=by
 generalize hqd:IE id o cs.length=q at *;have hq:∀x,q (.ow x)=false:=fun x=>by subst hqd;rfl
 have hqt:q (.t .top)=false:=by subst hqd;rfl
 have I:=h.kill q hq;have hc1:=hc.kill q hq;have hroot:∀{l:AT} {c:Nat},q l=false->l.Bz=some (.cell id c)->¬(o<=c/\c<o+cs.length):=by
  intro l c G e L;subst hqd;simp only[IE,e,decide_true,Bool.true_and,IJ,decide_eq_false_iff_not]at G;omega
 obtain⟨⟨E,hE⟩,hlen⟩:=I.bxs id ls hls;have hsome:(get (S.kill q).bx id).isSome:=by simp[hls]
 have hkl:(ES q cs).length=cs.length:=FF _ _;have hvl:vs.length=cs.length:=hc.1;have Z:o+vs.length<=(g.bv id).length:=by omega
 have B:∀c,(Dr ls o (ES q cs))[c]?=if o<=c/\c<o+cs.length then (ES q cs)[c-o]? else ls[c]?:=by
  intro c;rw[Gj _ _ _ (by omega),hkl]
 have hgetv:∀c,((g.bv id).take o++vs++(g.bv id).drop (o+vs.length))[c]?=if o<=c/\c<o+cs.length then vs[c-o]? else (g.bv id)[c]?:=by
  intro c;rw[<-Na _ _ _ Z,Gj _ _ _ Z,hvl]
 have y:∀c,(S.kill q).at (.cell id c)=ls[c]?:=by intro c;simp[St.at,hls]
 have hlen2:((g.bv id).take o++vs++(g.bv id).drop (o+vs.length)).length=(Dr ls o (ES q cs)).length:=by
  rw[<-Na _ _ _ Z,OG,OG,hlen]
 let j:Nat->Blk:=fun c=>if o<=c/\c<o+cs.length then nf (c-o) else g.fp (.cell id c)
 have hcase:∀(c:Nat) x,(Dr ls o (ES q cs))[c]?=some (.ow x) ->
  (o<=c/\c<o+cs.length/\(ES q cs)[c-o]?=some (.ow x)/\j c=nf (c-o))\/(¬(o<=c/\c<o+cs.length)/\(S.kill q).at (.cell id c)=some (.ow x)/\j c=g.fp (.cell id c)):=by
  intro c x Q;rw[B]at Q;by_cases e:o<=c/\c<o+cs.length
  .rw[AX e]at Q;exact .inl ⟨e.1,e.2,Q,by simp[j,e]⟩
  .rw[AU e]at Q;exact .inr ⟨e,(y c).trans Q,by simp only[j,AU e]⟩
 refine⟨_,I.AJW (d:=id) (blk:=g.β id) (E:=E) (nf:=j) Still.setRow (fun b L _=>setRow_other L) (ACs hE) (I.bxR id hsome)
  (fun r e=>I.FR r id e hsome) (fun X H hs he=>H (I.GM X id hs hsome he)) (.inl rfl) ?_ hlen2 ?_ ?_ (fun _=>⟨hsome,rfl⟩)⟩
 .intro l G c x e Q;have hql:q l=false:=by
   rcases G with G|⟨r,G,_⟩
   .obtain⟨c',O⟩:=Bh G;rw[B]at O;split at O
    .exact Q5 _ hqt (Ap O)
    .exact LW _ hqt ((y c').trans O)
   .exact LW _ hqt G
  have J:=hroot hql e;refine⟨?_,?_,?_⟩
  .rw[B,AU J,<-y];exact Q
  .rw[hgetv,AU J]
  .intro b L;simp only[j,AU J];exact L
 .intro c l G;rw[B]at G;by_cases e:o<=c/\c<o+cs.length
  .rw[AX e]at G;obtain⟨v,hv,hok⟩:=hc1.2.1 _ _ G;exact⟨v,by rw[hgetv,AX e];exact hv,by simp only[j,AX e];exact hok⟩
  .rw[AU e]at G;obtain⟨v,hv,hok⟩:=I.Cq (.cell id c) l ((y c).trans G);exact⟨v,by rw[hgetv,AU e];exact hv,by simp only[j,AU e];exact hok⟩
 .intro c x Q;rcases hcase c x Q with ⟨h3,Y,h5,h6⟩|⟨h3,Y,h6⟩
  .obtain⟨p1,p2,p3,p4⟩:=hc1.2.2 _ _ h5;rw[h6];refine⟨p1,fun r e _=>p2 r e,fun X hs _=>p3 X hs,p3 id hsome,?_⟩;intro c' x' hx' H b L;rcases hcase c' x' hx' with ⟨k3,k4,k5,k6⟩|⟨k3,k4,k6⟩
   .rw[k6];exact p4 _ _ k5 (by omega) b L
   .rw[k6];exact p2 _ ⟨_,k4⟩ b L
  .rw[h6];refine⟨I.Gu _ ⟨_,Y⟩,fun r e H=>I.dis _ _ ⟨_,Y⟩ e (Ne.symm (H c)),fun X hs _=>I.FR _ _ ⟨_,Y⟩ hs,I.FR _ _ ⟨_,Y⟩ hsome,?_⟩;intro c' x' hx' H b L;rcases hcase c' x' hx' with ⟨k3,k4,k5,k6⟩|⟨k3,k4,k6⟩
   .rw[k6];exact fun hb'=>(hc1.2.2 _ _ k5).2.1 _ ⟨_,Y⟩ b hb' L
   .rw[k6];exact I.dis _ _ ⟨_,Y⟩ ⟨_,k4⟩ (by simpa using H) b L
theorem Inv.xD(h:Inv F S g a w){r:CD}{e:Nat}{xs ys:List (List T)}{u:Value}{fp':Blk}(hx:S.at r=some (.ow (.sl e xs)))(hu:g.rv r=some u)(hl:ys.length=xs.length)
 (hs:Still w w') (hw:∀b,b<w.heap.size->¬g.fp r b->w'.heap[b]?=w.heap[b]?) (hown:Own w' (.sl e ys) u fp') (hK:∀b,fp' b->¬F.K b)
 (hdis:∀r',CG S r'->r'≠r->∀b,fp' b->¬g.fp r' b) (hB:∀id,(get S.bx id).isSome->¬fp' (g.β id)) :
 Inv F ((S.Bi r (.ow (.sl e ys))).kill (FW r)) { g with fp:=fun r'=>if r'=r then fp' else g.fp r'} a w':=by
 have Z:∀r',((S.Bi r (.ow (.sl e ys))).kill (FW r)).at r'=(if r'=r then some (.ow (.sl e ys)) else S.at r').map fun l=>if FW r l then .t .top else l:=by
  intro r';rw[Ha,Ei hx]
 have Q:∀r',CG ((S.Bi r (.ow (.sl e ys))).kill (FW r)) r'->CG S r':=by
  rintro r' ⟨x,hx'⟩;rw[Z,AO]at hx';obtain⟨l,H,I⟩:=hx';split at I
  .cases I
  .subst I;split at H
   .subst_vars;exact⟨_,hx⟩
   .exact⟨x,H⟩
 have hsome:∀id,(get ((S.Bi r (.ow (.sl e ys))).kill (FW r)).bx id).isSome->(get S.bx id).isSome:=by
  intro id hid;simp only[St.kill,DL,Jl]at hid
  rwa[Dd]at hid
 have hKw:∀b,F.K b->w'.heap[b]?=w.heap[b]?:=fun b c=>hw b (BR (h.rlt b c) h.size) fun hf=>h.Gu r ⟨_,hx⟩ b hf c
 have hfw:∀r',CG S r'->r'≠r->∀b,g.fp r' b->w'.heap[b]?=w.heap[b]?:=by
  rintro r' ⟨x,hx'⟩ G b c;obtain⟨v,_,L⟩:=h.Cq r' _ hx';exact hw b (Own.lt L b c) (h.dis r' r ⟨x,hx'⟩ ⟨_,hx⟩ G b c)
 let g':Gh:={ g with fp:=fun r'=>if r'=r then fp' else g.fp r'}
 have J:g'.fp r=fp':=by simp[g']
 have B:∀r',r'≠r->g'.fp r'=g.fp r':=fun r' G=>by simp[g',G]
 have tr:∀{fp:Blk} {l:AT} {v:Value},FW r l=false->(∀x,l≠.ow x)->Bt F S g w fp l v->Bt F ((S.Bi r (.ow (.sl e ys))).kill (FW r)) g' w' fp l v:=by
  intro fp l v hin hno L;by_cases hr:l.Bz=some r
  .match l,L with
   |.al q sub,⟨x,u1,y,O,h3⟩=>
    cases hr;rw[hx]at y;cases y;refine⟨.sl e ys,u1,by rw[Z,AX rfl];rfl,O,?_⟩;cases sub with
    |none=>exact h3|some p=>
     obtain⟨lo,n⟩:=p;obtain⟨blk,off,len,cap,off',cap',q1,q2,q3,q4⟩|⟨q1,q2,rfl,q4⟩:=h3
     .exact .inl ⟨blk,off,len,cap,off',cap',q1,q2,by omega,q4⟩
     .exact .inr ⟨q1,q2,List.eq_nil_of_length_eq_zero (by simpa using hl),q4⟩
   |.ep q i j,⟨Y,xs1,blk,off,len,cap,y,O,h3,h4⟩=>
    cases hr;rw[hx]at y;cases y;exact⟨e,ys,blk,off,len,cap,by rw[Z,AX rfl];rfl,O,by omega,h4⟩
   |.vw (.own q _) Y xs1,_=>cases hr;simp[FW]at hin
   |.vp (.own q _) cs1,_=>cases hr;simp[FW]at hin
  .refine Bt.any hno ((Bt.any (fp':=fun _=>False) hno L).tr ?_ (fun _ _=>rfl) (fun _ h=>h.elim) hKw);intro q hr1;obtain⟨x,hx1⟩:=L.alive hr1;have G:q≠r:=by rintro rfl;exact hr hr1
   refine⟨?_,rfl,fun b c=>by rw[B q G];exact c,hfw q ⟨x,hx1⟩ G⟩;rw[Z,AU G,hx1];rfl
 show Inv F _ g' a w';refine { Cq:=?_,tms:=?_,bxs:=?_,dis:=?_,FR:=?_,Gu:=?_,GM:=fun id id' y O=>h.GM id id' (hsome id y) (hsome id' O),bxR:=fun id y=>h.bxR id (hsome id y),FV:=fun b c=>(hKw b c).trans (h.FV b c),rlt:=h.rlt,still:=h.still.trans hs,defs:=h.defs,tsz:=h.tsz,pin:=?_}
 .intro r' l hl;rw[Z,AO]at hl;obtain⟨l0,H,I⟩:=hl;by_cases hr:r'=r
  .subst hr;rw[AX rfl]at H;cases H;simp only[FW,if_false,Bool.false_eq_true]at I;subst I;exact⟨u,hu,by rw[J];exact hown⟩
  .rw[AU hr]at H;obtain⟨v,hv,L⟩:=h.Cq r' l0 H;refine⟨v,hv,?_⟩;split at I
   .subst I;exact Bt.top
   .rename_i hin;subst I;by_cases how:∃x,l0=.ow x
    .obtain⟨x,rfl⟩:=how;rw[B r' hr];exact Own.frame L (hfw r' ⟨x,H⟩ hr)
    .have hno:∀x,l0≠.ow x:=fun x hx=>how ⟨x,hx⟩
     exact Bt.any hno (tr (by simpa using hin) hno L)
 .intro s e' he;simp only[St.kill,FE,AO]at he;obtain⟨Y,he1,rfl⟩:=he;obtain⟨e0,y,O,h3⟩:=Lk he1;obtain⟨p1,p2,p3⟩:=h.tms s e0 y;exact⟨p1,by rw[p2,O],by rw[p3,FF,h3]⟩
 .intro id ls' hls;simp only[St.kill,DL,AO]at hls;obtain⟨l1,H,rfl⟩:=hls;obtain⟨l0,y,O⟩:=Iz H;obtain⟨⟨E,hE⟩,p2⟩:=h.bxs id l0 y;refine⟨⟨E,(hw _ (A1.1 hE).1 fun hf=>h.FR r id ⟨_,hx⟩ (by simp[y]) hf).trans hE⟩,by rw[p2,FF,O]⟩
 .intro q r2 y O G b c X;by_cases Y:q=r
  .subst Y;rw[J]at c;rw[B r2 (Ne.symm G)]at X;exact hdis r2 (Q r2 O) (Ne.symm G) b c X
  .rw[B q Y]at c;by_cases e2:r2=r
   .subst e2;rw[J]at X;exact hdis q (Q q y) Y b X c
   .rw[B r2 e2]at X;exact h.dis q r2 (Q q y) (Q r2 O) G b c X
 .intro q id y hid c;by_cases Y:q=r
  .subst Y;rw[J]at c;exact hB id (hsome id hid) c
  .rw[B q Y]at c;exact h.FR q id (Q q y) (hsome id hid) c
 .intro q y b c;by_cases Y:q=r
  .subst Y;rw[J]at c;exact hK b c
  .rw[B q Y]at c;exact h.Gu q (Q q y) b c
 .intro p hp;have hpp:p∈S.pin:=by
   have:((S.Bi r (.ow (.sl e ys))).kill (FW r)).pin=S.pin:=G8
   rwa[this]at hp
  obtain⟨y,O⟩:=h.pin p hpp;exact⟨y,fun hs=>O (hsome p hs)⟩
theorem Inv.ATJ(h:Inv F S g a w){r:CD}{e:Nat}{xs ys:List (List T)}{u:Value}{fp':Blk}(G:S.at r=some (.ow (.sl e xs)))(B:g.rv r=some u)(q:ys.length=xs.length)
 (y:Still w w') (E:∀b,b<w.heap.size->¬g.fp r b->w'.heap[b]?=w.heap[b]?) (j:Own w' (.sl e ys) u fp') (hK:∀b,fp' b->¬F.K b)
 (c:∀r',CG S r'->r'≠r->∀b,fp' b->¬g.fp r' b) (hB:∀id,(get S.bx id).isSome->¬fp' (g.β id)) :
 ∃g',Inv F ((S.Bi r (.ow (.sl e ys))).kill (FW r)) g' a w':=⟨_,h.xD G B q y E j hK c hB⟩
theorem yG{rows:List (List T)}{i j:Nat}{x y:T}(h:at2 rows i j=some y)(c e:Nat):at2 (JA rows i j x) c e=if c=i/\e=j then some x else at2 rows c e:=by
 grind[at2,List.getElem?_eq_some_iff,List.getD,JA]
theorem QQ{rows:List (List T)}{i j:Nat}{x:T}:(JA rows i j x).length=rows.length:=by simp[JA]
theorem rL{rows:List (List T)}{i j e:Nat}{x:T}(h:∀row∈rows,row.length=e)(hi:i<rows.length):∀row∈JA rows i j x,row.length=e:=by
 intro row c;rcases List.mem_or_eq_of_mem_set c with c|rfl
 .exact h row c
 grind[List.length_set,List.getD]
theorem Own.hole{e:Nat}{rows:List (List T)}{blk off len cap:Nat}{fp:Blk}{i j:Nat}{y:T}{v:Value}(h:Own w (.sl e rows) (.slice (some ⟨blk,off,none⟩) len cap) fp)(O:at2 rows i j=some y)
 (hv:w.cell? ⟨blk,off+i*e+j,none⟩=some v) :
 ∃S0 fp':Blk,Own w y v S0/\Own w (.sl e (JA rows i j .top)) (.slice (some ⟨blk,off,none⟩) len cap) fp'/\(∀b,S0 b->fp b)/\(∀b,fp' b->fp b)/\∀b,S0 b->¬fp' b:=by
 cases h with
 |sc h _ _=>exact h.elim|sl c f h1 h2 h3 h4 h5 h6 h7 h8 h9 Q=>
  have hc:c i j=v:=by
   rw[h4.cell,h6 i j y O]at hv;exact Option.some.inj hv
  subst hc;have L:=h7 i j y O;have hi:=sA O;have H:∀q B x,at2 (JA rows i j .top) q B=some x->(q=i/\B=j/\x=.top)\/(¬(q=i/\B=j)/\at2 rows q B=some x):=by
   intro q B x I;rw[yG O]at I;split at I
   .rename_i G;exact .inl ⟨G.1,G.2,(Option.some.inj I).symm⟩
   .rename_i G;exact .inr ⟨G,I⟩
  refine⟨f i j,fun b=>b=blk\/∃q B x,at2 (JA rows i j .top) q B=some x/\(if q=i/\B=j then fun _=>False else f q B) b,L,
   .sl c (fun q B=>if q=i/\B=j then fun _=>False else f q B) (by rw[QQ];exact h1) h2 (rL h3 hi) h4 h5 ?_ ?_ ?_ ?_ (fun b=>Iff.rfl),?_,?_,?_⟩
  .intro q B x I;rcases H q B x I with ⟨rfl,rfl,rfl⟩|⟨G,E⟩
   .exact h6 _ _ _ O
   .exact h6 _ _ _ E
  .intro q B x I;rcases H q B x I with ⟨rfl,rfl,rfl⟩|⟨G,E⟩
   .exact .sc trivial L.one (by simp)
   .rw[AU G];exact h7 _ _ _ E
  .intro q B x I;rcases H q B x I with ⟨rfl,rfl,rfl⟩|⟨G,E⟩
   .simp
   .rw[AU G];exact h8 _ _ _ E
  .intro i1 j1 x1 i2 j2 x2 hx1 hx2 hne b J;rcases H i1 j1 x1 hx1 with ⟨rfl,rfl,rfl⟩|⟨G,Y⟩
   .simp at J
   .rw[AU G]at J;rcases H i2 j2 x2 hx2 with ⟨rfl,rfl,rfl⟩|⟨hh2,Z⟩
    .simp
    .rw[AU hh2];exact h9 _ _ _ _ _ _ Y Z hne b J
  .intro b J;exact(Q b).2 (.inr ⟨i,j,y,O,J⟩)
  .rintro b (rfl|⟨q,B,x,I,J⟩)
   .exact(Q _).2 (.inl rfl)
   .rcases H q B x I with ⟨rfl,rfl,rfl⟩|⟨G,E⟩
    .simp at J
    .rw[AU G]at J;exact(Q b).2 (.inr ⟨q,B,x,E,J⟩)
  .rintro b J (rfl|⟨q,B,x,I,X⟩)
   .exact h8 i j y O J
   .rcases H q B x I with ⟨rfl,rfl,rfl⟩|⟨G,E⟩
    .simp at X
    .rw[AU G]at X;exact h9 i j y q B x O E (by rintro rfl rfl;exact G ⟨rfl,rfl⟩) b J X
def AJt(x x':T):Prop:=x'=x\/∃e xs xs',x=.sl e xs/\x'=.sl e xs'/\xs'.length=xs.length
theorem AJt.trans{x y z:T}(h:AJt x y)(j:AJt y z):AJt x z:=by
 rcases h with rfl|⟨e,xs,ys,rfl,rfl,q⟩
 .exact j
 .rcases j with rfl|⟨H,E,G,B,rfl,c⟩
  .exact .inr ⟨e,xs,ys,rfl,rfl,q⟩
  .cases B;exact .inr ⟨e,xs,G,rfl,rfl,c.trans q⟩
structure Iu(F:Fix)(S S':St)(g g':Gh)(a:Act)(w:World):Prop where
 inv:Inv F S' g' a w
 AB7:∀r x',S'.at r=some (.ow x')->∃x,S.at r=some (.ow x)/\AJt x x'
 bx:∀id,(get S'.bx id).isSome->(get S.bx id).isSome
 pin:S'.pin=S.pin
 tv:g'.tv=g.tv
 bv:g'.bv=g.bv
 β:g'.β=g.β
 fp:∀r b,g'.fp r b->g.fp r b
theorem Rg.toG(h:Rg F S S' g a w):Iu F S S' g g a w:=⟨h.inv,fun r x c=>⟨x,h.same r x c,.inl rfl⟩,h.bx,h.pin,rfl,rfl,rfl,fun _ _ h=>h⟩
theorem Iu.al(h:Iu F S S' g g' a w):∀r,CG S' r->CG S r:=fun r ⟨x,c⟩=>let ⟨y,e,_⟩:=h.AB7 r x c;⟨y,e⟩
theorem Iu.rv(h:Iu F S S' g g' a w)(r:CD):g'.rv r=g.rv r:=by cases r<;>simp[Gh.rv,h.tv,h.bv]
theorem Iu.trans{S2:St}{q:Gh}(h:Iu F S S' g g' a w)(c:Iu F S' S2 g' q a w):Iu F S S2 g q a w:=
 ⟨c.inv,fun r x G=>let ⟨y,H,E⟩:=c.AB7 r x G;let ⟨z,I,j⟩:=h.AB7 r y H;⟨z,I,j.trans E⟩,fun id e=>h.bx id (c.bx id e),c.pin.trans h.pin,c.tv.trans h.tv,c.bv.trans h.bv,c.β.trans h.β,fun r b B=>h.fp r b (c.fp r b B)⟩
theorem rU(h:Inv F S g a w){r:CD}{x:T}(e:S.at r=some (.ow x)):Rg F S (S.out r) g a w:=
 ⟨h.out e,fun _ _ j=>lY e j,fun _ c=>VR c,wg⟩
theorem Bt.off{fp:Blk}{l:AT}{v:Value}(h:Bt F S g w fp l v){r:CD}(B:l.Bz≠some r)(hS:∀r',r'≠r->CG S r'->S'.at r'=S.at r')(y:∀r',r'≠r->g'.fp r'=g.fp r')(E:∀r',g'.rv r'=g.rv r')(hβ:g'.β=g.β):Bt F S' g' w fp l v:=by
 refine h.tr ?_ (fun _ _=>by rw[hβ]) (fun _ _=>rfl) fun _ _=>rfl
 intro j e;have c:j≠r:=by rintro rfl;exact B e
 exact⟨hS j c (h.alive e),E j,fun b q=>by rw[y j c];exact q,fun _ _=>rfl⟩
theorem N8{r:CD}{i j:Nat}(c:S.pull r i j=some S'):∃e rows,S.at r=some (.ow (.sl e rows))/\S'=(S.Bi r (.ow (.sl e (JA rows i j .top)))).kill (FW r):=by
 grind[St.pull,Option.some.inj]
theorem Ok{r:CD}{e:Nat}{rows ys:List (List T)}(c:S.at r=some (.ow (.sl e rows)))(r':CD) :
 ((S.Bi r (.ow (.sl e ys))).kill (FW r)).at r'=(if r'=r then some (.ow (.sl e ys)) else S.at r').map fun l=>if FW r l then .t .top else l:=by
 rw[Ha,Ei c]
theorem qW{r:CD}{e:Nat}{rows ys:List (List T)}(y:S.at r=some (.ow (.sl e rows)))(B:ys.length=rows.length) :
 ∀r' q,((S.Bi r (.ow (.sl e ys))).kill (FW r)).at r'=some (.ow q)->∃x,S.at r'=some (.ow x)/\AJt x q:=by
 intro r' q j;rw[Ok y,AO]at j;obtain⟨l,c,h⟩:=j;split at h
 .cases h
 .subst h;split at c
  .subst_vars
   cases c;exact⟨_,y,.inr ⟨e,rows,ys,rfl,rfl,B⟩⟩
  .exact⟨q,c,.inl rfl⟩
theorem AVT{r:CD}{e:Nat}{rows ys:List (List T)}(j:S.at r=some (.ow (.sl e rows))) :
 ∀r',r'≠r->CG S r'->((S.Bi r (.ow (.sl e ys))).kill (FW r)).at r'=S.at r':=by
 rintro r' c ⟨x,h⟩;rw[Ok j,AU c,h];rfl
theorem AVU{r:CD}{l:AT}{id:Nat}(h:(get ((S.Bi r l).kill (FW r)).bx id).isSome):(get S.bx id).isSome:=by
 simp only[St.kill,DL,Jl]at h
 rwa[Dd]at h
theorem ACR{r:CD}{l:AT}:((S.Bi r l).kill (FW r)).pin=S.pin:=G8
theorem Inv.pull(h:Inv F S g a w){r:CD}{i j e:Nat}{xs:List (List T)}{v:Value}(X:S.pull r i j=some S')(Q:AtC S g w r (some (i,j)) e xs v) :
 ∃(S0:Blk) (g':Gh),Iu F S S' g g' a w/\Own w (.sl e xs) v S0/\(∀b,S0 b->g.fp r b)/\(∀b,S0 b->¬g'.fp r b)/\(∀r',r'≠r->g'.fp r'=g.fp r') /\
  (∀r',r'≠r->CG S r'->S'.at r'=S.at r')/\CG S r:=by
 obtain⟨e0,rows,c,rfl⟩:=N8 X;obtain⟨e1,rows1,blk,off,len,cap,L,O,Y,k4,Z⟩:=Q;rw[c]at L;cases L;obtain⟨u,J,E⟩:=h.Cq r _ c;rw[O]at J;cases J;obtain⟨S0,fp',o1,o2,o3,I,o5⟩:=Own.hole E Y Z;have B:=h.xD (w':=w) (ys:=JA rows i j .top) (fp':=fp') c O QQ Still.refl (fun _ _ _=>rfl) o2 (fun b y=>h.Gu r ⟨_,c⟩ b (I b y)) (fun r' H G b y=>h.dis r r' ⟨_,c⟩ H (Ne.symm G) b (I b y))
  (fun id q y=>h.FR r id ⟨_,c⟩ q (I _ y))
 refine⟨S0,_,⟨B,qW c QQ,fun id q=>AVU q,ACR,rfl,rfl,rfl,?_⟩,o1,o3,?_,?_,AVT c,⟨_,c⟩⟩
 .grind
 .grind
 grind
theorem wa{r:CD}{ls:List AT}(h:onR r ls=false):∀l∈ls,l.Bz≠some r:=by
 induction ls with
 |nil=>simp|cons l ls c=>
  grind[onR,Bool.or_eq_false_iff,decide_eq_false_iff_not]
def AMm(F:Fix)(S:St)(g:Gh)(w:World)(cs:List T)(vs:List Value)(nf:Nat->Blk):Prop:=
 vs.length=cs.length/\(∀(c:Nat) x,cs[c]?=some x->∃v,vs[c]?=some v/\Own w x v (nf c)) /\
  (∀c b,c<cs.length->nf c b->¬F.K b)/\(∀c r b,c<cs.length->CG S r->nf c b->¬g.fp r b)/\(∀c id,c<cs.length->(get S.bx id).isSome->¬nf c (g.β id)) /\
  ∀c c' b,c<cs.length->c'<cs.length->c≠c'->nf c b->¬nf c' b
theorem Xk{ls:List AT}{cs:List T}{vs:List Value}(h:Inv F S g a w)(hn:∀x,AT.ow x∉ls)(X:vs.length=ls.length)
 (hok:∀(c:Nat) (l:AT),ls[c]?=some l->∃v,vs[c]?=some v/\(∀r,l.Bz=some r->CG S r->Bt F S g w (fun _=>False) l v)/\(l.Bz=none->Bt F S g w (fun _=>False) l v))
 (G:Di S ls=some (S',cs)) :
 ∃g',Iu F S S' g g' a w /\
 ∃nf:Nat->Blk,AMm F S' g' w cs vs nf/\∀c b,c<cs.length->nf c b->∃l r,ls[c]?=some l/\l.Bz=some r/\CG S r/\g.fp r b:=by
 induction ls generalizing S S' g cs vs with
 |nil=>
  simp only[Di,AD,A0]at G;obtain⟨rfl,rfl⟩:=G;exact⟨g,Rg.toG ⟨h,fun _ _ h=>h,fun _ h=>h,rfl⟩,fun _ _=>False,⟨X,by simp,by simp,by simp,by simp,by simp⟩,by simp⟩
 |cons l ls ih=>
  obtain⟨v,vs,rfl⟩:∃v vs',vs=v::vs':=by cases vs with|nil=>simp at X|cons v vs=>exact⟨v,vs,rfl⟩
  simp only[AH,HO]at X;have hn':∀x,AT.ow x∉ls:=fun x O=>hn x (Ax _ O)
  obtain⟨v0,hv0,hroot,hnone⟩:=hok 0 l rfl;simp only[AM,AD]at hv0;subst hv0;have step:∀(r:CD) (_:l.Bz=some r) (y:T) (S0:Blk) (S1 S2:St) (g1:Gh) (B:List T),Iu F S S1 g g1 a w->CG S r->(∀b,S0 b->g.fp r b)->(∀b,S0 b->CG S1 r->¬g1.fp r b)->(∀l'∈ls,∀v',(∀r',l'.Bz=some r'->CG S r'->Bt F S g w (fun _=>False) l' v')->(l'.Bz=none->Bt F S g w (fun _=>False) l' v') ->
   (∀r',l'.Bz=some r'->CG S1 r'->Bt F S1 g1 w (fun _=>False) l' v')/\(l'.Bz=none->Bt F S1 g1 w (fun _=>False) l' v'))->Own w y v S0->Di S1 ls=some (S2,B) ->
   ∃g2,Iu F S S2 g g2 a w/\∃nf:Nat->Blk,AMm F S2 g2 w (y::B) (v::vs) nf/\∀c b,c<(y::B).length->nf c b->∃l' r,(l::ls)[c]?=some l'/\l'.Bz=some r/\CG S r/\g.fp r b:=by
   intro r hlr y S0 S1 S2 g1 B hT1 I hS0 hdis hleaf hO J;obtain⟨g2,hT2,nf,hT,hnf⟩:=ih (S:=S1) (S':=S2) (g:=g1) (cs:=B) (vs:=vs) hT1.inv hn' X (by
    intro c l' Q;obtain⟨v',hv',hk1,hk2⟩:=hok (c+1) l' (by simpa using Q);have:=hleaf l' (Ap Q) v' hk1 hk2;exact⟨v',by simpa using hv',this.1,this.2⟩) J
   obtain⟨t1,t2,t3,t4,t5,t6⟩:=hT;have hTT:=hT1.trans hT2;have hS0':∀r' b,CG S2 r'->S0 b->¬g2.fp r' b:=by
    intro r' b H E Y;have hb1:=hT2.fp r' b Y;have hal1:=hT2.al r' H;by_cases hrr:r'=r
    .subst hrr;exact hdis b E hal1 hb1
    .exact h.dis r r' I (hT1.al r' hal1) (Ne.symm hrr) b (hS0 b E) (hT1.fp r' b hb1)
   refine⟨g2,hTT,fun c=>match c with|0=>S0|c+1=>nf c,⟨by simpa using t1,?_,?_,?_,?_,?_⟩,?_⟩
   .intro c y' Z;cases c with|zero=>simp only[AM,AD]at Z;subst Z;exact⟨v,rfl,hO⟩|succ c=>exact t2 c y' (by simpa using Z)
   .intro c b L E;cases c with|zero=>exact h.Gu r I b (hS0 b E)|succ c=>exact t3 c b (by simpa using L) E
   .intro c r' b L H E;cases c with|zero=>exact hS0' r' b H E|succ c=>exact t4 c r' b (by simpa using L) H E
   .intro c id L hid E;cases c with|zero=>rw[hTT.β]at E;exact h.FR r id I (hTT.bx id hid) (hS0 _ E)|succ c=>exact t5 c id (by simpa using L) hid E
   .have hcross:∀c b,c<B.length->S0 b->¬nf c b:=by
     intro c b L E Y;obtain⟨_,r',_,_,H,hf⟩:=hnf c b L Y;by_cases hrr:r'=r
     .subst hrr;exact hdis b E H hf
     .exact h.dis r r' I (hT1.al r' H) (Ne.symm hrr) b (hS0 b E) (hT1.fp r' b hf)
    intro c c' b L hc' hne E;cases c with
    |zero=>
     cases c' with
     |zero=>exact(hne rfl).elim|succ c'=>exact hcross c' b (by simpa using hc') E
    |succ c=>
     cases c' with
     |zero=>exact fun Y=>hcross c b (by simpa using L) Y E|succ c'=>exact t6 c c' b (by simpa using L) (by simpa using hc') (by omega) E
   .intro c b L E;cases c with
    |zero=>exact⟨l,r,rfl,hlr,I,hS0 b E⟩|succ c=>
     obtain⟨l',r',Q,hlr',H,hf⟩:=hnf c b (by simpa using L) E;exact⟨l',r',by simpa using Q,hlr',hT1.al r' H,hT1.fp r' b hf⟩
  have stepO:∀(r:CD) (_:l.Bz=some r) (x y:T) (S0:Blk) (S1:St) (B:List T),S.at r=some (.ow x)->(∀b,S0 b->g.fp r b)->Own w y v S0->Di (S.out r) ls=some (S1,B) ->
   ∃g2,Iu F S S1 g g2 a w/\∃nf:Nat->Blk,AMm F S1 g2 w (y::B) (v::vs) nf/\∀c b,c<(y::B).length->nf c b->∃l' r,(l::ls)[c]?=some l'/\l'.Bz=some r/\CG S r/\g.fp r b:=by
   intro r hlr x y S0 S1 B O hS0 hO J;refine step r hlr y S0 (S.out r) S1 g B (rU h O).toG ⟨x,O⟩ hS0 (fun b _ I=>absurd rfl (IW O I).1) ?_ hO J;intro l' _ v' hk1 hk2;refine⟨?_,fun hr=>(hk2 hr).out O (by simp[hr])⟩;intro r' H I;have:=IW O I;exact(hk1 r' H this.2).out O (by rw[H];simpa using this.1)
  cases l with
  |t x=>
   simp only[Di]at G;split at G
   .cases G
   .rename_i htop;split at G
    .rename_i S1 B J;simp only[AD,A0]at G;obtain⟨rfl,rfl⟩:=G;obtain⟨g1,htaken,nf,hT,hnf⟩:=ih (S:=S) (S':=S1) (g:=g) (cs:=B) (vs:=vs) h hn' X (by
      intro c l' Q;obtain⟨v',hv',hk⟩:=hok (c+1) l' (by simpa using Q);exact⟨v',by simpa using hv',hk⟩) J
     obtain⟨t1,t2,t3,t4,t5,t6⟩:=hT;have hsc:Sc x v:=hnone rfl;refine⟨g1,htaken,fun c=>match c with|0=>fun _=>False|c+1=>nf c,⟨by simpa using t1,?_,?_,?_,?_,?_⟩,?_⟩
     .intro c y' Z;cases c with|zero=>simp only[AM,AD]at Z;subst Z;exact⟨v,rfl,.sc hsc (hsc.one (by simpa using htop)) fun _ h=>h⟩|succ c=>exact t2 c y' (by simpa using Z)
     .intro c b L E;cases c with|zero=>exact E.elim|succ c=>exact t3 c b (by simpa using L) E
     .intro c r' b L H E;cases c with|zero=>exact E.elim|succ c=>exact t4 c r' b (by simpa using L) H E
     .intro c id L hid E;cases c with|zero=>exact E.elim|succ c=>exact t5 c id (by simpa using L) hid E
     .intro c c' b L hc' hne E;cases c with
      |zero=>exact E.elim|succ c=>
       cases c' with
       |zero=>exact fun Y=>Y.elim|succ c'=>exact t6 c c' b (by simpa using L) (by simpa using hc') (by omega) E
     .intro c b L E;cases c with|zero=>exact E.elim|succ c=>exact hnf c b (by simpa using L) E
    .cases G
  |al r sub=>
   simp only[Di]at G;split at G
   .rename_i x O;split at G
    .rename_i S1 B J;simp only[AD,A0]at G;obtain⟨rfl,rfl⟩:=G;obtain⟨x',u,hx',hu,hsub⟩:=hroot r rfl ⟨x,O⟩;rw[O]at hx';cases hx';have hown:Own w x u (g.fp r):=by
      obtain⟨u',hu',hk⟩:=h.Cq r _ O;rw[hu]at hu';cases hu';exact hk
     obtain⟨S0,hS0,hO⟩:=RD hown hsub;exact stepO r rfl x _ S0 S1 B O hS0 hO J
    .cases G
   .cases G
  |vw s e xs=>
   cases s with
   |old k=>simp[Di]at G|own r p=>
    cases p with
    |none=>
     simp only[Di]at G;split at G
     .rename_i x O;split at G
      .rename_i S1 B J;simp only[AD,A0]at G;obtain⟨rfl,rfl⟩:=G;obtain⟨_,⟨S0,hS0,hO⟩,_⟩:=hroot r rfl ⟨x,O⟩;exact stepO r rfl x _ S0 S1 B O hS0 hO J
      .cases G
     .cases G
    |some q=>
     obtain⟨i,j⟩:=q;simp only[Di]at G;split at G
     .cases G
     .rename_i hon;split at G
      .rename_i S1 hpl;split at G
       .rename_i S2 B J;simp only[AD,A0]at G;obtain⟨rfl,rfl⟩:=G;obtain⟨e0,rows,O,_⟩:=N8 hpl;obtain⟨_,_,hat⟩:=hroot r rfl ⟨_,O⟩;obtain⟨S0,g1,q1,q2,q3,q4,q5,q6,q7⟩:=h.pull hpl hat;refine step r rfl _ S0 S1 S2 g1 B q1 q7 q3 (fun b E _=>q4 b E) ?_ q2 J;intro l' Q v' hk1 hk2;have hne:=wa (by simpa using hon) l' Q;exact⟨fun r' H I=>(hk1 r' H (q1.al r' I)).off hne q6 q5 q1.rv q1.β,fun hr=>(hk2 hr).off hne q6 q5 q1.rv q1.β⟩
       .cases G
      .cases G
  |ow x=>exact(hn x (by simp)).elim|und=>simp[Di]at G|ep _ _ _=>simp[Di]at G|vp s cs=>simp[Di]at G|bp _ _=>simp[Di]at G|fn _ _=>simp[Di]at G
end
end Lv
