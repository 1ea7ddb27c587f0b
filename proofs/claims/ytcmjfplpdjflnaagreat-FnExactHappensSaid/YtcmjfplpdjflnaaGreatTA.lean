/- The typed machine is right about the light one. -/
import Derived.Test.YtcmjfplpdjflnaaGreatLvE
noncomputable section
set_option linter.unusedVariables false
set_option linter.unusedSimpArgs false
set_option linter.unusedSectionVars false
open List renaming all_map->Ll,any_map->G4,length_map->Aj,map_cons->AI,map_drop->CU,map_nil->BV,map_take->Cl
open Nat renaming eq_of_beq_eq_true->Hi,lt_of_lt_of_le->BQ,ne_of_beq_eq_false->HP
open Option renaming map_some->Ap
open Option.some renaming injEq->AD
namespace Lv
open Go (IntKind BinOp UnOp)
structure Bo where
 mk ::
 Kind:Int
 Id:Int
 AY:Int
 Bk:Int
 BB:Int
 Cv:Int
abbrev oC(x:Bo):List T:=[.int .i64 x.Kind,.int .i64 x.Id,.int .i64 x.AY,.int .i64 x.Bk,.int .i64 x.BB,.int .i64 x.Cv]
def jz(x:Bo):Prop:=okI x.Kind/\okI x.Id/\okI x.AY/\okI x.Bk/\okI x.BB/\okI x.Cv/\True
structure Ae where
 mk ::
 AZ:List Int
 Ce:Int
 Room:Int
 BB:Int
 CE:Int
 B0:Int
 Rest:Int
 Cd:Int
 C3:Int
abbrev AJb(x:Ae):List T:=[.sl 1 (x.AZ.map eN),.int .i64 x.Ce,.int .i64 x.Room,.int .i64 x.BB,.int .i64 x.CE,.int .i64 x.B0,.int .i64 x.Rest,.int .i64 x.Cd,.int .i64 x.C3]
def AB2(x:Ae):Prop:=(okL okI) x.AZ/\okI x.Ce/\okI x.Room/\okI x.BB/\okI x.CE/\okI x.B0/\okI x.Rest/\okI x.Cd/\okI x.C3/\True
structure AM where
 mk ::
 Id:Int
 AY:Int
 Bk:Int
 BB:Int
 Cv:Int
 Since:Int
 Ay:Int
 State:Int
 Cq:Int
 DB:Int
abbrev SI(x:AM):List T:=[.int .i64 x.Id,.int .i64 x.AY,.int .i64 x.Bk,.int .i64 x.BB,.int .i64 x.Cv,.int .i64 x.Since,.int .i64 x.Ay,.int .i64 x.State,.int .i64 x.Cq,.int .i64 x.DB]
def jx(x:AM):Prop:=okI x.Id/\okI x.AY/\okI x.Bk/\okI x.BB/\okI x.Cv/\okI x.Since/\okI x.Ay/\okI x.State/\okI x.Cq/\okI x.DB/\True
structure BJ where
 mk ::
 Total:Int
 DY:Int
 EZ:Int
 FM:Int
 Fa:Int
abbrev ABB(x:BJ):List T:=[.int .i64 x.Total,.int .i64 x.DY,.int .i64 x.EZ,.int .i64 x.FM,.int .i64 x.Fa]
def oh(x:BJ):Prop:=okI x.Total/\okI x.DY/\okI x.EZ/\okI x.FM/\okI x.Fa/\True
structure Ad where
 mk ::
 Level:Int
 Ay:Int
 Id:Int
 BB:Int
abbrev aI(x:Ad):List T:=[.int .i64 x.Level,.int .i64 x.Ay,.int .i64 x.Id,.int .i64 x.BB]
def jv(x:Ad):Prop:=okI x.Level/\okI x.Ay/\okI x.Id/\okI x.BB/\True
structure A7 where
 mk ::
 At:Int
 Id:Int
abbrev oB(x:A7):List T:=[.int .i64 x.At,.int .i64 x.Id]
def jy(x:A7):Prop:=okI x.At/\okI x.Id/\True
structure Av where
 mk ::
 An:List (List A7)
abbrev AJd(x:Av):List T:=[.sl 1 (x.An.map (fun l=>[T.sl 2 (l.map oB)]))]
def AB4(x:Av):Prop:=(okL (okL jy)) x.An/\True
structure AX where
 mk ::
 AZ:BJ
 Row:List Ad
 Bq:Av
abbrev SH(x:AX):List T:=[.int .i64 x.AZ.Total,.int .i64 x.AZ.DY,.int .i64 x.AZ.EZ,.int .i64 x.AZ.FM,.int .i64 x.AZ.Fa,.sl 4 (x.Row.map aI),.sl 1 (x.Bq.An.map (fun l=>[T.sl 2 (l.map oB)]))]
def Re(x:AX):Prop:=oh x.AZ/\(okL jv) x.Row/\AB4 x.Bq/\True
structure AF where
 mk ::
 AQ:Ae
 Now:Int
 Ay:Int
 AG:List AM
 AH:List AX
 BE:List Int
 BC:List Int
abbrev AJa(x:AF):List T:=[.sl 1 (x.AQ.AZ.map eN),.int .i64 x.AQ.Ce,.int .i64 x.AQ.Room,.int .i64 x.AQ.BB,.int .i64 x.AQ.CE,.int .i64 x.AQ.B0,.int .i64 x.AQ.Rest,.int .i64 x.AQ.Cd,.int .i64 x.AQ.C3,.int .i64 x.Now,.int .i64 x.Ay,.sl 10 (x.AG.map SI),.sl 7 (x.AH.map SH),.sl 1 (x.BE.map eN),.sl 1 (x.BC.map eN)]
def jw(x:AF):Prop:=AB2 x.AQ/\okI x.Now/\okI x.Ay/\(okL jx) x.AG/\(okL Re) x.AH/\(okL okI) x.BE/\(okL okI) x.BC/\True
structure B3 where
 mk ::
 Data:List UInt8
 Safe:Int
abbrev AO7(x:B3):List T:=[.str x.Data,.int .i64 x.Safe]
def aW(x:B3):Prop:=okS x.Data/\okI x.Safe/\True
structure Br where
 mk ::
 Log:B3
 EJ:B3
 Odd:B3
abbrev AJc(x:Br):List T:=[.str x.Log.Data,.int .i64 x.Log.Safe,.str x.EJ.Data,.int .i64 x.EJ.Safe,.str x.Odd.Data,.int .i64 x.Odd.Safe]
def AB3(x:Br):Prop:=aW x.Log/\aW x.EJ/\aW x.Odd/\True
structure BD where
 mk ::
 Az:AF
 Bl:Br
 Seq:Int
 Laid:List Bo
abbrev ABA(x:BD):List T:=[.sl 1 (x.Az.AQ.AZ.map eN),.int .i64 x.Az.AQ.Ce,.int .i64 x.Az.AQ.Room,.int .i64 x.Az.AQ.BB,.int .i64 x.Az.AQ.CE,.int .i64 x.Az.AQ.B0,.int .i64 x.Az.AQ.Rest,.int .i64 x.Az.AQ.Cd,.int .i64 x.Az.AQ.C3,.int .i64 x.Az.Now,.int .i64 x.Az.Ay,.sl 10 (x.Az.AG.map SI),.sl 7 (x.Az.AH.map SH),.sl 1 (x.Az.BE.map eN),.sl 1 (x.Az.BC.map eN),.str x.Bl.Log.Data,.int .i64 x.Bl.Log.Safe,.str x.Bl.EJ.Data,.int .i64 x.Bl.EJ.Safe,.str x.Bl.Odd.Data,.int .i64 x.Bl.Odd.Safe,.int .i64 x.Seq,.sl 6 (x.Laid.map oC)]
def Yc(x:BD):Prop:=jw x.Az/\AB3 x.Bl/\okI x.Seq/\(okL jz) x.Laid/\True
structure Bf where
 mk ::
 Code:Int
 Ids:List Int
abbrev aJ(x:Bf):List T:=[.int .i64 x.Code,.sl 1 (x.Ids.map eN)]
def WT(x:Bf):Prop:=okI x.Code/\(okL okI) x.Ids/\True
structure CB where
 mk ::
 Ac:BD
 GG:List Bo
 Cx:List Bf
 GH:Int
abbrev qZ(x:CB):List T:=[.sl 1 (x.Ac.Az.AQ.AZ.map eN),.int .i64 x.Ac.Az.AQ.Ce,.int .i64 x.Ac.Az.AQ.Room,.int .i64 x.Ac.Az.AQ.BB,.int .i64 x.Ac.Az.AQ.CE,.int .i64 x.Ac.Az.AQ.B0,.int .i64 x.Ac.Az.AQ.Rest,.int .i64 x.Ac.Az.AQ.Cd,.int .i64 x.Ac.Az.AQ.C3,.int .i64 x.Ac.Az.Now,.int .i64 x.Ac.Az.Ay,.sl 10 (x.Ac.Az.AG.map SI),.sl 7 (x.Ac.Az.AH.map SH),.sl 1 (x.Ac.Az.BE.map eN),.sl 1 (x.Ac.Az.BC.map eN),.str x.Ac.Bl.Log.Data,.int .i64 x.Ac.Bl.Log.Safe,.str x.Ac.Bl.EJ.Data,.int .i64 x.Ac.Bl.EJ.Safe,.str x.Ac.Bl.Odd.Data,.int .i64 x.Ac.Bl.Odd.Safe,.int .i64 x.Ac.Seq,.sl 6 (x.Ac.Laid.map oC),.sl 6 (x.GG.map oC),.sl 2 (x.Cx.map aJ),.int .i64 x.GH]
def j5(x:CB):Prop:=Yc x.Ac/\(okL jz) x.GG/\(okL WT) x.Cx/\okI x.GH/\True
structure Iu where
 mk ::
 Kind:Int
 Req:Bo
 N_:Int
 Ji:List Int
abbrev AO6(x:Iu):List T:=[.int .i64 x.Kind,.int .i64 x.Req.Kind,.int .i64 x.Req.Id,.int .i64 x.Req.AY,.int .i64 x.Req.Bk,.int .i64 x.Req.BB,.int .i64 x.Req.Cv,.int .i64 x.N_,.sl 1 (x.Ji.map eN)]
def ATe(x:Iu):Prop:=okI x.Kind/\jz x.Req/\okI x.N_/\(okL okI) x.Ji/\True
structure Bu where
 mk ::
 Seq:Int
 Body:List UInt8
 Next:Int
abbrev AWe(x:Bu):List T:=[.int .i64 x.Seq,.str x.Body,.int .i64 x.Next]
structure DM where
 mk ::
 RW:List Int
 at_:Int
 vg:Bool
abbrev AWf(x:DM):List T:=[.sl 1 (x.RW.map eN),.int .i64 x.at_,.bool x.vg]
structure PN where
 mk ::
 b_:List UInt8
 i_:Int
 h_:Int
abbrev AWg(x:PN):List T:=[.sl 1 (x.b_.map eBr),.int .i64 x.i_,.int .i64 x.h_]
inductive C where
 |i|u|b|s|m|z|ki(k:IntKind)|l(c:C)|st(n:Nat)|un(n:Nat)
 deriving DecidableEq
def tD:Nat->Type|0=>Bo|1=>Ae|2=>AM|3=>BJ|4=>Ad|5=>A7|6=>Av|7=>AX|8=>AF|9=>B3|10=>Br|11=>BD|12=>Bf|13=>CB|14=>Iu|15=>Bu|16=>DM|17=>PN|_=>Unit
def C.D:C->Type|.i=>Int|.u=>UInt8|.b=>Bool|.s=>List UInt8|.m=>List (Int×Int)|.ki _=>Int|.z=>Unit|.l c=>List c.D|.st n=>tD n|.un _=>Unit
def AYb:Nat->Nat|0=>6|1=>9|2=>10|3=>5|4=>4|5=>2|6=>1|7=>7|8=>15|9=>2|10=>6|11=>23|12=>2|13=>26|14=>9|15=>3|16=>3|17=>3|_=>0
def C.size:C->Nat|.st n=>AYb n|.un n=>n|_=>1
inductive U where
 |top|un|int(k:IntKind)(n:Int)|u8(x:UInt8)|bool(b:Bool)|str(s:List UInt8)|nil|np|sl(c:C)(xs:List c.D)|mp(ks:List (Int×Int))
def AaR:(n:Nat)->tD n->List T|0,x=>oC x|1,x=>AJb x|2,x=>SI x|3,x=>ABB x|4,x=>aI x|5,x=>oB x|6,x=>AJd x|7,x=>SH x|8,x=>AJa x|9,x=>AO7 x|10,x=>AJc x|11,x=>ABA x|12,x=>aJ x|13,x=>qZ x|14,x=>AO6 x|15,x=>AWe x|16,x=>AWf x|17,x=>AWg x|_+18,_=>[]
def enc:(c:C)->c.D->List T|.i,x=>[.int .i64 x]|.u,x=>[.int .u8 x.toNat]|.b,x=>[.bool x]|.s,x=>[.str x]|.m,x=>[.mp x]|.ki k,x=>[.int k x]|.z,_=>[.nil]|.l c,xs=>[.sl c.size (xs.map (enc c))]|.st n,x=>AaR n x|.un n,_=>List.replicate n .un
abbrev AXu(x:Bo):List U:=[.int .i64 x.Kind,.int .i64 x.Id,.int .i64 x.AY,.int .i64 x.Bk,.int .i64 x.BB,.int .i64 x.Cv]
abbrev AGw(x:Ae):List U:=[.sl .i x.AZ,.int .i64 x.Ce,.int .i64 x.Room,.int .i64 x.BB,.int .i64 x.CE,.int .i64 x.B0,.int .i64 x.Rest,.int .i64 x.Cd,.int .i64 x.C3]
abbrev AGu(x:AM):List U:=[.int .i64 x.Id,.int .i64 x.AY,.int .i64 x.Bk,.int .i64 x.BB,.int .i64 x.Cv,.int .i64 x.Since,.int .i64 x.Ay,.int .i64 x.State,.int .i64 x.Cq,.int .i64 x.DB]
abbrev vq(x:BJ):List U:=[.int .i64 x.Total,.int .i64 x.DY,.int .i64 x.EZ,.int .i64 x.FM,.int .i64 x.Fa]
abbrev AGr(x:Ad):List U:=[.int .i64 x.Level,.int .i64 x.Ay,.int .i64 x.Id,.int .i64 x.BB]
abbrev AXt(x:A7):List U:=[.int .i64 x.At,.int .i64 x.Id]
abbrev AGy(x:Av):List U:=[.sl (.l (.st 5)) x.An]
abbrev AGq(x:AX):List U:=[.int .i64 x.AZ.Total,.int .i64 x.AZ.DY,.int .i64 x.AZ.EZ,.int .i64 x.AZ.FM,.int .i64 x.AZ.Fa,.sl (.st 4) x.Row,.sl (.l (.st 5)) x.Bq.An]
abbrev AGt(x:AF):List U:=[.sl .i x.AQ.AZ,.int .i64 x.AQ.Ce,.int .i64 x.AQ.Room,.int .i64 x.AQ.BB,.int .i64 x.AQ.CE,.int .i64 x.AQ.B0,.int .i64 x.AQ.Rest,.int .i64 x.AQ.Cd,.int .i64 x.AQ.C3,.int .i64 x.Now,.int .i64 x.Ay,.sl (.st 2) x.AG,.sl (.st 7) x.AH,.sl .i x.BE,.sl .i x.BC]
abbrev AOE(x:B3):List U:=[.str x.Data,.int .i64 x.Safe]
abbrev AGx(x:Br):List U:=[.str x.Log.Data,.int .i64 x.Log.Safe,.str x.EJ.Data,.int .i64 x.EJ.Safe,.str x.Odd.Data,.int .i64 x.Odd.Safe]
abbrev vn(x:BD):List U:=[.sl .i x.Az.AQ.AZ,.int .i64 x.Az.AQ.Ce,.int .i64 x.Az.AQ.Room,.int .i64 x.Az.AQ.BB,.int .i64 x.Az.AQ.CE,.int .i64 x.Az.AQ.B0,.int .i64 x.Az.AQ.Rest,.int .i64 x.Az.AQ.Cd,.int .i64 x.Az.AQ.C3,.int .i64 x.Az.Now,.int .i64 x.Az.Ay,.sl (.st 2) x.Az.AG,.sl (.st 7) x.Az.AH,.sl .i x.Az.BE,.sl .i x.Az.BC,.str x.Bl.Log.Data,.int .i64 x.Bl.Log.Safe,.str x.Bl.EJ.Data,.int .i64 x.Bl.EJ.Safe,.str x.Bl.Odd.Data,.int .i64 x.Bl.Odd.Safe,.int .i64 x.Seq,.sl (.st 0) x.Laid]
abbrev AGv(x:Bf):List U:=[.int .i64 x.Code,.sl .i x.Ids]
abbrev AGz(x:CB):List U:=[.sl .i x.Ac.Az.AQ.AZ,.int .i64 x.Ac.Az.AQ.Ce,.int .i64 x.Ac.Az.AQ.Room,.int .i64 x.Ac.Az.AQ.BB,.int .i64 x.Ac.Az.AQ.CE,.int .i64 x.Ac.Az.AQ.B0,.int .i64 x.Ac.Az.AQ.Rest,.int .i64 x.Ac.Az.AQ.Cd,.int .i64 x.Ac.Az.AQ.C3,.int .i64 x.Ac.Az.Now,.int .i64 x.Ac.Az.Ay,.sl (.st 2) x.Ac.Az.AG,.sl (.st 7) x.Ac.Az.AH,.sl .i x.Ac.Az.BE,.sl .i x.Ac.Az.BC,.str x.Ac.Bl.Log.Data,.int .i64 x.Ac.Bl.Log.Safe,.str x.Ac.Bl.EJ.Data,.int .i64 x.Ac.Bl.EJ.Safe,.str x.Ac.Bl.Odd.Data,.int .i64 x.Ac.Bl.Odd.Safe,.int .i64 x.Ac.Seq,.sl (.st 0) x.Ac.Laid,.sl (.st 0) x.GG,.sl (.st 12) x.Cx,.int .i64 x.GH]
abbrev AXs(x:Iu):List U:=[.int .i64 x.Kind,.int .i64 x.Req.Kind,.int .i64 x.Req.Id,.int .i64 x.Req.AY,.int .i64 x.Req.Bk,.int .i64 x.Req.BB,.int .i64 x.Req.Cv,.int .i64 x.N_,.sl .i x.Ji]
abbrev AGs(x:Bu):List U:=[.int .i64 x.Seq,.str x.Body,.int .i64 x.Next]
abbrev AG0(x:DM):List U:=[.sl .i x.RW,.int .i64 x.at_,.bool x.vg]
abbrev AG1(x:PN):List U:=[.sl .u x.b_,.int .i64 x.i_,.int .i64 x.h_]
def ADL:(n:Nat)->tD n->List U|0,x=>AXu x|1,x=>AGw x|2,x=>AGu x|3,x=>vq x|4,x=>AGr x|5,x=>AXt x|6,x=>AGy x|7,x=>AGq x|8,x=>AGt x|9,x=>AOE x|10,x=>AGx x|11,x=>vn x|12,x=>AGv x|13,x=>AGz x|14,x=>AXs x|15,x=>AGs x|16,x=>AG0 x|17,x=>AG1 x|_+18,_=>[]
def cells:(c:C)->c.D->List U|.i,x=>[.int .i64 x]|.u,x=>[.u8 x]|.b,x=>[.bool x]|.s,x=>[.str x]|.m,x=>[.mp x]|.ki k,x=>[.int k x]|.z,_=>[.nil]|.l c,xs=>[.sl c xs]|.st n,x=>ADL n x|.un n,_=>List.replicate n .un
def toI:U->Option Int|.int .i64 n=>some n|_=>none
def toU:U->Option UInt8|.u8 x=>some x|_=>none
def AXg:U->Option Bool|.bool x=>some x|_=>none
def toN(k:IntKind):U->Option Int|.int k' x=>if k'=k then some x else none|_=>none
def toZ:U->Option Unit|.nil=>some ()|_=>none
def toM:U->Option (List (Int×Int))|.mp x=>some x|_=>none
def toS:U->Option (List UInt8)|.str x=>some x|_=>none
def toL(c:C):U->Option (List c.D)|.sl c' xs=>if h:c'=c then some (h▸xs) else none|_=>none
def gI{α:Type}(us:List U)(K:Int->List U->Option α):Option α:=match us with|u::us=>(toI u).bind fun a=>K a us | []=>none
def gS{α:Type}(us:List U)(K:List UInt8->List U->Option α):Option α:=match us with|u::us=>(toS u).bind fun a=>K a us | []=>none
def gBo{α:Type}(us:List U)(K:Bool->List U->Option α):Option α:=match us with|u::us=>(AXg u).bind fun a=>K a us | []=>none
def gL{α:Type}(c:C)(us:List U)(K:List c.D->List U->Option α):Option α:=match us with|u::us=>(toL c u).bind fun a=>K a us | []=>none
def gE{α:Type}(us:List U)(a:α):Option α:=match us with | []=>some a|_::_=>none
def ATc(us:List U):Option Bo:=gI us fun a0 us=>gI us fun a1 us=>gI us fun a2 us=>gI us fun a3 us=>gI us fun a4 us=>gI us fun a5 us=>gE us (⟨a0,a1,a2,a3,a4,a5⟩:Bo)
def tZ(us:List U):Option Ae:=gL .i us fun a0 us=>gI us fun a1 us=>gI us fun a2 us=>gI us fun a3 us=>gI us fun a4 us=>gI us fun a5 us=>gI us fun a6 us=>gI us fun a7 us=>gI us fun a8 us=>gE us (⟨a0,a1,a2,a3,a4,a5,a6,a7,a8⟩:Ae)
def tX(us:List U):Option AM:=gI us fun a0 us=>gI us fun a1 us=>gI us fun a2 us=>gI us fun a3 us=>gI us fun a4 us=>gI us fun a5 us=>gI us fun a6 us=>gI us fun a7 us=>gI us fun a8 us=>gI us fun a9 us=>gE us (⟨a0,a1,a2,a3,a4,a5,a6,a7,a8,a9⟩:AM)
def jt(us:List U):Option BJ:=gI us fun a0 us=>gI us fun a1 us=>gI us fun a2 us=>gI us fun a3 us=>gI us fun a4 us=>gE us (⟨a0,a1,a2,a3,a4⟩:BJ)
def tU(us:List U):Option Ad:=gI us fun a0 us=>gI us fun a1 us=>gI us fun a2 us=>gI us fun a3 us=>gE us (⟨a0,a1,a2,a3⟩:Ad)
def ATa(us:List U):Option A7:=gI us fun a0 us=>gI us fun a1 us=>gE us (⟨a0,a1⟩:A7)
def te(us:List U):Option Av:=gL (.l (.st 5)) us fun a0 us=>gE us (⟨a0⟩:Av)
def tT(us:List U):Option AX:=gI us fun a0 us=>gI us fun a1 us=>gI us fun a2 us=>gI us fun a3 us=>gI us fun a4 us=>gL (.st 4) us fun a5 us=>gL (.l (.st 5)) us fun a6 us=>gE us (⟨⟨a0,a1,a2,a3,a4⟩,a5,⟨a6⟩⟩:AX)
def tW(us:List U):Option AF:=gL .i us fun a0 us=>gI us fun a1 us=>gI us fun a2 us=>gI us fun a3 us=>gI us fun a4 us=>gI us fun a5 us=>gI us fun a6 us=>gI us fun a7 us=>gI us fun a8 us=>gI us fun a9 us=>gI us fun a10 us=>gL (.st 2) us fun a11 us=>gL (.st 7) us fun a12 us=>gL .i us fun a13 us=>gL .i us fun a14 us=>gE us (⟨⟨a0,a1,a2,a3,a4,a5,a6,a7,a8⟩,a9,a10,a11,a12,a13,a14⟩:AF)
def AFT(us:List U):Option B3:=gS us fun a0 us=>gI us fun a1 us=>gE us (⟨a0,a1⟩:B3)
def ta(us:List U):Option Br:=gS us fun a0 us=>gI us fun a1 us=>gS us fun a2 us=>gI us fun a3 us=>gS us fun a4 us=>gI us fun a5 us=>gE us (⟨⟨a0,a1⟩,⟨a2,a3⟩,⟨a4,a5⟩⟩:Br)
def jr(us:List U):Option BD:=gL .i us fun a0 us=>gI us fun a1 us=>gI us fun a2 us=>gI us fun a3 us=>gI us fun a4 us=>gI us fun a5 us=>gI us fun a6 us=>gI us fun a7 us=>gI us fun a8 us=>gI us fun a9 us=>gI us fun a10 us=>gL (.st 2) us fun a11 us=>gL (.st 7) us fun a12 us=>gL .i us fun a13 us=>gL .i us fun a14 us=>gS us fun a15 us=>gI us fun a16 us=>gS us fun a17 us=>gI us fun a18 us=>gS us fun a19 us=>gI us fun a20 us=>gI us fun a21 us=>gL (.st 0) us fun a22 us=>gE us (⟨⟨⟨a0,a1,a2,a3,a4,a5,a6,a7,a8⟩,a9,a10,a11,a12,a13,a14⟩,⟨⟨a15,a16⟩,⟨a17,a18⟩,⟨a19,a20⟩⟩,a21,a22⟩:BD)
def tY(us:List U):Option Bf:=gI us fun a0 us=>gL .i us fun a1 us=>gE us (⟨a0,a1⟩:Bf)
def tf(us:List U):Option CB:=gL .i us fun a0 us=>gI us fun a1 us=>gI us fun a2 us=>gI us fun a3 us=>gI us fun a4 us=>gI us fun a5 us=>gI us fun a6 us=>gI us fun a7 us=>gI us fun a8 us=>gI us fun a9 us=>gI us fun a10 us=>gL (.st 2) us fun a11 us=>gL (.st 7) us fun a12 us=>gL .i us fun a13 us=>gL .i us fun a14 us=>gS us fun a15 us=>gI us fun a16 us=>gS us fun a17 us=>gI us fun a18 us=>gS us fun a19 us=>gI us fun a20 us=>gI us fun a21 us=>gL (.st 0) us fun a22 us=>gL (.st 0) us fun a23 us=>gL (.st 12) us fun a24 us=>gI us fun a25 us=>gE us (⟨⟨⟨⟨a0,a1,a2,a3,a4,a5,a6,a7,a8⟩,a9,a10,a11,a12,a13,a14⟩,⟨⟨a15,a16⟩,⟨a17,a18⟩,⟨a19,a20⟩⟩,a21,a22⟩,a23,a24,a25⟩:CB)
def ATY(us:List U):Option Iu:=gI us fun a0 us=>gI us fun a1 us=>gI us fun a2 us=>gI us fun a3 us=>gI us fun a4 us=>gI us fun a5 us=>gI us fun a6 us=>gI us fun a7 us=>gL .i us fun a8 us=>gE us (⟨a0,⟨a1,a2,a3,a4,a5,a6⟩,a7,a8⟩:Iu)
def tV(us:List U):Option Bu:=gI us fun a0 us=>gS us fun a1 us=>gI us fun a2 us=>gE us (⟨a0,a1,a2⟩:Bu)
def th(us:List U):Option DM:=gL .i us fun a0 us=>gI us fun a1 us=>gBo us fun a2 us=>gE us (⟨a0,a1,a2⟩:DM)
def tj(us:List U):Option PN:=gL .u us fun a0 us=>gI us fun a1 us=>gI us fun a2 us=>gE us (⟨a0,a1,a2⟩:PN)
def ofS:(n:Nat)->List U->Option (tD n)|0,us=>ATc us|1,us=>tZ us|2,us=>tX us|3,us=>jt us|4,us=>tU us|5,us=>ATa us|6,us=>te us|7,us=>tT us|8,us=>tW us|9,us=>AFT us|10,us=>ta us|11,us=>jr us|12,us=>tY us|13,us=>tf us|14,us=>ATY us|15,us=>tV us|16,us=>th us|17,us=>tj us|_+18,_=>none
def MC:Nat->List U->Option Unit|0,[]=>some ()|n+1,.un::us=>MC n us|_,_=>none
def of1{α:Type}(us:List U)(f:U->Option α):Option α:=match us with | [u]=>f u|_=>none
def ofC:(c:C)->List U->Option c.D|.i,us=>of1 us toI|.u,us=>of1 us toU|.b,us=>of1 us AXg|.s,us=>of1 us toS|.m,us=>of1 us toM|.ki k,us=>of1 us (toN k)|.z,us=>of1 us toZ|.l c,us=>of1 us (toL c)|.st n,us=>ofS n us|.un n,us=>MC n us
def AYh:(n:Nat)->Option (tD n)|0=>some (⟨0,0,0,0,0,0⟩:Bo)|1=>some (⟨[],0,0,0,0,0,0,0,0⟩:Ae)|2=>some (⟨0,0,0,0,0,0,0,0,0,0⟩:AM)|3=>some (⟨0,0,0,0,0⟩:BJ)|4=>some (⟨0,0,0,0⟩:Ad)|5=>some (⟨0,0⟩:A7)|6=>some (⟨[]⟩:Av)|7=>some (⟨⟨0,0,0,0,0⟩,[],⟨[]⟩⟩:AX)|8=>some (⟨⟨[],0,0,0,0,0,0,0,0⟩,0,0,[],[],[],[]⟩:AF)|9=>some (⟨[],0⟩:B3)|10=>some (⟨⟨[],0⟩,⟨[],0⟩,⟨[],0⟩⟩:Br)|11=>some (⟨⟨⟨[],0,0,0,0,0,0,0,0⟩,0,0,[],[],[],[]⟩,⟨⟨[],0⟩,⟨[],0⟩,⟨[],0⟩⟩,0,[]⟩:BD)|12=>some (⟨0,[]⟩:Bf)|13=>some (⟨⟨⟨⟨[],0,0,0,0,0,0,0,0⟩,0,0,[],[],[],[]⟩,⟨⟨[],0⟩,⟨[],0⟩,⟨[],0⟩⟩,0,[]⟩,[],[],0⟩:CB)|14=>some (⟨0,⟨0,0,0,0,0,0⟩,0,[]⟩:Iu)|15=>some (⟨0,[],0⟩:Bu)|16=>some (⟨[],0,false⟩:DM)|17=>some (⟨[],0,0⟩:PN)|_+18=>none
def ADB:(c:C)->Option c.D|.i=>some (0:Int)|.u=>some (0:UInt8)|.b=>some false|.s=>some ([]:List UInt8)|.m=>some ([]:List (Int×Int))|.ki _=>some (0:Int)|.z=>none|.l c=>some ([]:List c.D)|.st n=>AYh n|.un _=>none
def U.fg:U->T|.top=>.top|.un=>.un|.int k n=>.int k n|.u8 x=>.int .u8 x.toNat|.bool b=>.bool b|.str s=>.str s|.nil=>.nil|.np=>.np|.mp ks=>.mp ks|.sl c xs=>.sl c.size (xs.map (enc c))
def Tu:List C->Type| []=>Unit| [c]=>c.D|c::c'::cs=>c.D×Tu (c'::cs)
def PZ:(cs:List C)->Tu cs->List (List T)| [],_=>[]| [c],x=>[enc c x]|c::c'::cs,x=>enc c x.1::PZ (c'::cs) x.2
def ofT:(cs:List C)->List U->Option (Tu cs)
 | [],us=>match us with | []=>some ()|_=>none
 | [c],us=>ofC c us|c::c'::cs,us=>match ofC c (us.take c.size),ofT (c'::cs) (us.drop c.size) with|some a,some b=>some (a,b)|_,_=>none
inductive PK where
 |v(c:C)|p(c:C)|b(c:C)|o(c:C)|m(c:C)|f(x:CD)(caps:List (Bool×C))
def PK.md:PK->Md|.v _=>.v|.p _=>.p|.b _=>.b|.o _=>.o|.m _=>.m|.f _ _=>.v
def shC:C->Sh|.st _=>.agg|.un _=>.agg|_=>.one
def wC:C->Option Nat|.st n=>some (AYb n)|.un n=>some n|_=>none
def po:List (Bool×C)->Type| []=>Unit|(_,c)::r=>c.D×po r
def PK.D:PK->Type|.v c=>c.D|.p c=>c.D|.b c=>c.D|.o c=>c.D|.m c=>c.D|.f _ caps=>po caps
def A:List PK->Type| []=>Unit|k::ks=>k.D×A ks
def Qh:(l:List (Bool×C))->po l->List V| [],_=>[]|(false,c)::r,x=>.v .one (enc c x.1)::Qh r x.2|(true,c)::r,x=>.p (enc c x.1)::Qh r x.2
def PK.V:(k:PK)->k.D->V|.v c,x=>.v (shC c) (enc c x)|.p c,x=>.p (enc c x)|.b c,x=>.b (enc c x)|.o c,x=>.o (shC c) (enc c x)|.m c,x=>.m (shC c) (enc c x)|.f x caps,y=>.f x (Qh caps y)
def aVs:(ks:List PK)->A ks->List V| [],_=>[]|k::ks,x=>k.V x.1::aVs ks x.2
def Kn:List PK->List C| []=>[]|.b c::r=>c::Kn r|.m c::r=>c::Kn r|_::r=>Kn r
def fX:List PK->List CD| []=>[]|.f x _::r=>x::fX r|_::r=>fX r
inductive RK where
 |ret(cs:List C)|ptr(k:Nat)(c:C)|vw(k:Nat)(c:C)
def RK.cs:RK->List C|.ret cs=>cs|.ptr _ c=>[c]|.vw _ c=>[.l c]
def RK.sh:RK->Sh|.ret cs=>ACi (cs.map wC)|.ptr k _=>.ptr k|.vw k _=>.vw k
structure GF where
 x:CD
 ps:List PK
 rk:RK
 d:A ps->Option (Tu (rk.cs++Kn ps))
 ms:EI x=ps.map PK.md
 ok:∀a r,d a=some r->Iv x (aVs ps a) rk.sh ((PZ _ r).take rk.cs.length).flatten ((PZ _ r).drop rk.cs.length)
structure Evs where
 bd:(α γ:Type)->Option α->(α->Option γ)->Option γ
 lp:(σ γ:Type)->((σ->Option γ)->σ->Option γ)->Nat->σ->Option γ
 jn:(σ γ:Type)->(σ->Option γ)->σ->Option γ
 eq:(α γ:Type)->α->α->Option γ->Option γ
 al:(γ:Type)->(Option γ->Option γ)->Option γ->Option γ
 ox:(γ:Type)->Option γ->Option γ->Option γ
def AJ0{σ γ:Type}(F:(σ->Option γ)->σ->Option γ):Nat->σ->Option γ|0,_=>none|n+1,x=>F (AJ0 F n) x
open Classical in
def Evs.std:Evs where
 bd _ _ o f:=o.bind f
 lp _ _ F n x:=AJ0 F n x
 jn _ _ F x:=F x
 eq _ _ a b x:=if a=b then x else none
 al _ F x:=F x
 ox _ x y:=match x with|some r=>some r|none=>y
def evX:Evs:=Classical.choose (p:=fun E=>E=Evs.std) ⟨_,rfl⟩
theorem NV:evX=Evs.std:=Classical.choose_spec (p:=fun E=>E=Evs.std) ⟨_,rfl⟩
section
def orX{γ:Type}(x y:Option γ):Option γ:=evX.ox γ x y
def br{γ:Type}(b:Bool)(x y:Option γ):Option γ:=if b=true then x else y
def gd{γ:Type}(p:Prop)[i:Decidable p](x:Option γ):Option γ:=if p then x else none
def bd{α γ:Type}(o:Option α)(f:α->Option γ):Option γ:=evX.bd α γ o f
def A3{σ γ:Type}(F:(σ->Option γ)->σ->Option γ)(n:Nat)(x:σ):Option γ:=evX.lp σ γ F n x
def jn{σ γ:Type}(F:σ->Option γ)(x:σ):Option γ:=evX.jn σ γ F x
def eqv{α γ:Type}(a b:α)(x:Option γ):Option γ:=evX.eq α γ a b x
def alt{γ:Type}(F:Option γ->Option γ)(x:Option γ):Option γ:=evX.al γ F x
end
theorem AYY{γ:Type}(y:Option γ):orX none y=y:=by unfold orX;rw[NV];rfl
theorem AYZ{γ:Type}(r:γ)(y:Option γ):orX (some r) y=some r:=by unfold orX;rw[NV];rfl
theorem AZm{γ:Type}{x y:Option γ}{r:γ}(h:orX x y=some r):x=some r\/y=some r:=by
 cases x with
 |none=>rw[AYY]at h;exact .inr h|some q=>rw[AYZ]at h;exact .inl h
theorem AYw{γ:Type}(b:Bool)(x y:Option γ):br b x y=if b=true then x else y:=rfl
theorem APM{γ:Type}(p:Prop) [Decidable p] (x:Option γ):gd p x=if p then x else none:=rfl
theorem ADH{α γ:Type}(o:Option α)(f:α->Option γ):bd o f=o.bind f:=by unfold bd;rw[NV];rfl
theorem ATE{σ γ:Type}(F:σ->Option γ)(x:σ):jn F x=F x:=by unfold jn;rw[NV];rfl
theorem AGj{γ:Type}(F:Option γ->Option γ)(x:Option γ):alt F x=F x:=by unfold alt;rw[NV];rfl
open Classical in
theorem AJj{α γ:Type}(a b:α)(x:Option γ):eqv a b x=if a=b then x else none:=by unfold eqv;rw[NV];rfl
theorem Ch{α γ:Type}(a:α)(x:Option γ):eqv a a x=x:=by rw[AJj,AW rfl]
theorem RB{α γ:Type}{a b:α}{x:Option γ}{r:γ}(h:eqv a b x=some r):a=b/\x=some r:=by
 grind[AJj]
theorem AJ2{σ γ:Type}(F:(σ->Option γ)->σ->Option γ)(x:σ):A3 F 0 x=none:=by unfold A3;rw[NV];rfl
theorem Dv{σ γ:Type}(F:(σ->Option γ)->σ->Option γ)(n:Nat)(x:σ):A3 F (n+1) x=F (A3 F n) x:=by
 have:∀m y,A3 F m y=AJ0 F m y:=fun m y=>by unfold A3;rw[NV];rfl
 rw[this];show F (AJ0 F n) x=_;congr 1;funext y;exact(this n y).symm
inductive Cap where
 |t(x:U)|vw(k:Nat)(c:C)(xs:List c.D)|vp(k:Nat)(cs:List U)|bp(id off:Nat)
namespace Y
def mem(k:Nat):List Nat->Bool
 | []=>false|x::xs=>match Nat.beq k x with|true=>true|false=>mem k xs
def CC.is:CC->CC->Bool
 |.tmp s c,.tmp s' c'=>match Nat.beq s s' with|true=>Nat.beq c c'|false=>false
 |.cell s c,.cell s' c'=>match Nat.beq s s' with|true=>Nat.beq c c'|false=>false
 |_,_=>false
def isR(o:Option CC)(r:CC):Bool:=match o with|some r'=>CC.is r' r|none=>false
def isN(o:Option Nat)(r:Nat):Bool:=match o with|some r'=>Nat.beq r' r|none=>false
def get{α:Type}:List (Nat×α)->Nat->Option α
 | [],_=>none|(k,a)::r,s=>match Nat.beq k s with|true=>some a|false=>get r s
def put{α:Type}:List (Nat×α)->Nat->α->List (Nat×α)
 | [],s,a=>[(s,a)]|(k,b)::r,s,a=>match Nat.beq s k with
  |true=>(s,a)::r|false=>match Nat.ble s k with|true=>(s,a)::(k,b)::r|false=>(k,b)::put r s a
def Iz{α:Type}(ks:List Nat):List (Nat×α)->List (Nat×α)
 | []=>[]|(k,b)::r=>match mem k ks with|true=>Iz ks r|false=>(k,b)::Iz ks r
def F6{α:Type}(ks:List Nat):List (Nat×α)->List (Nat×α)
 | []=>[]|(k,b)::r=>match mem k ks with|true=>(k,b)::F6 ks r|false=>F6 ks r
inductive AR where
 |t(x:U)|und|ow(x:U)|owh(c:C)(xs:List c.D)(hs:List (Nat×Nat))|al(r:CC)(sub:Option (Nat×Nat))|ep(r:CC)(i:Int)(j:Nat)|vw(s:Src)(c:C)(xs:List c.D)|vp(s:Src)(cs:List U)|bp(id off:Nat)|fn(n:Nat)(caps:List Cap)
structure Ent where
 sh:Sh
 cs:List AR
 ver:Nat
structure Bx where
 cs:List AR
 ver:Nat
structure St where
 tm:List (Nat×Ent)
 bx:List (Nat×Bx)
 pin:List Nat
 nv:Nat
section
variable{γ:Type}
def DH(n:Nat)(K:Nat->γ):γ:=match n with|0=>K 0|k+1=>K (k+1)
def _root_.Lv.U.FP(x:U)(K:U->γ):γ:=
 match x with
 |.top=>K .top|.int k n=>K (.int k n)|.u8 x=>K (.u8 x)|.bool b=>K (.bool b)|.str s=>K (.str s)|.nil=>K .nil|.np=>K .np|.un=>K .un|.sl c xs=>K (.sl c xs)|.mp ks=>K (.mp ks)
def aN:List U->(List U->γ)->γ| [],K=>K []|x::xs,K=>x.FP fun x=>aN xs fun xs=>K (x::xs)
def ib(r:CC)(K:CC->γ):γ:=
 match r with
 |.tmp s c=>DH s fun s=>DH c fun c=>K (.tmp s c)|.cell s c=>DH s fun s=>DH c fun c=>K (.cell s c)
def RD(s:Src)(K:Src->γ):γ:=
 match s with
 |.own r p=>ib r fun r=>match p with|none=>K (.own r none)|some (i,j)=>DH j fun j=>K (.own r (some (i,j)))
 |.old k=>DH k fun k=>K (.old k)
def AR.FP(l:AR)(K:AR->γ):γ:=
 match l with
 |.t x=>x.FP fun x=>K (.t x)|.und=>K .und|.ow x=>x.FP fun x=>K (.ow x)|.owh c xs hs=>K (.owh c xs hs)|.al r sub=>ib r fun r=>match sub with|none=>K (.al r none)|some (a,b)=>K (.al r (some (a,b)))
 |.ep r i j=>ib r fun r=>DH j fun j=>K (.ep r i j)|.vw s c xs=>RD s fun s=>K (.vw s c xs)|.vp s cs=>RD s fun s=>aN cs fun cs=>K (.vp s cs)|.bp id off=>DH id fun id=>DH off fun off=>K (.bp id off)|.fn n caps=>K (.fn n caps)
def SL:List AR->(List AR->γ)->γ| [],K=>K []|x::xs,K=>x.FP fun x=>SL xs fun xs=>K (x::xs)
def SM:List (Option Nat)->(List (Option Nat)->γ)->γ| [],K=>K []|none::xs,K=>SM xs fun xs=>K (none::xs)|some n::xs,K=>DH n fun n=>SM xs fun xs=>K (some n::xs)
def aM(s:Sh)(K:Sh->γ):γ:=
 match s with
 |.one=>K .one|.agg=>K .agg|.tup ns=>SM ns fun ns=>K (.tup ns)|.ptr k=>K (.ptr k)|.vw k=>K (.vw k)
def rC:List (Nat×Ent)->(List (Nat×Ent)->γ)->γ| [],K=>K []|(k,⟨sh,cs,v⟩)::xs,K=>aM sh fun sh=>SL cs fun cs=>DH v fun v=>rC xs fun xs=>K ((k,⟨sh,cs,v⟩)::xs)
def rB:List (Nat×Bx)->(List (Nat×Bx)->γ)->γ| [],K=>K []|(k,⟨cs,v⟩)::xs,K=>SL cs fun cs=>DH v fun v=>rB xs fun xs=>K ((k,⟨cs,v⟩)::xs)
def rD:List Nat->(List Nat->γ)->γ| [],K=>K []|x::xs,K=>rD xs fun xs=>K (x::xs)
def St.FP(S:St)(K:St->γ):γ:=
 match S with
 |⟨tm,bx,pin,nv⟩=>rC tm fun tm=>rB bx fun bx=>rD pin fun pin=>DH nv fun nv=>K ⟨tm,bx,pin,nv⟩
end
structure En where
 sh:Sh
 cs:List AR
def AR.Bz:AR->Option CC|.al r _=>some r|.ep r _ _=>some r|.vw (.own r _) _ _=>some r|.vp (.own r _) _=>some r|_=>none
def _root_.Lv.Cap.K6:Cap->Option Nat|.bp id _=>some id|_=>none
def AR.K6:AR->Option Nat|.bp id _=>some id|.al (.cell id _) _=>some id|.ep (.cell id _) _ _=>some id|.vw (.own (.cell id _) _) _ _=>some id|.vp (.own (.cell id _) _) _=>some id|_=>none
def AR.AYy:AR->Option Cap|.t x=>some (.t x)|.vw (.old k) c xs=>some (.vw k c xs)|.vp (.old k) cs=>some (.vp k cs)|.bp id off=>some (.bp id off)|_=>none
def _root_.Lv.Cap.leaf:Cap->AR|.t x=>.t x|.vw k c xs=>.vw (.old k) c xs|.vp k cs=>.vp (.old k) cs|.bp id off=>.bp id off
def names:AR->List Nat|.bp id _=>[id]|.fn _ caps=>caps.filterMap Lv.Cap.K6|_=>[]
def D8(q:AR->Bool):List AR->List AR| []=>[]|l::ls=>(if q l=true then .t .top else l)::D8 q ls
def KS(v:Nat)(q:AR->Bool):List (Nat×Ent)->List (Nat×Ent)| []=>[]|(k,e)::r=>(k,if e.cs.any q=true then ⟨e.sh,D8 q e.cs,v⟩ else e)::KS v q r
def KR(v:Nat)(q:AR->Bool):List (Nat×Bx)->List (Nat×Bx)| []=>[]|(k,e)::r=>(k,if e.cs.any q=true then ⟨D8 q e.cs,v⟩ else e)::KR v q r
def St.kill(S:St)(q:AR->Bool):St:=⟨KS S.nv q S.tm,KR S.nv q S.bx,S.pin,S.nv+1⟩
def St.JM(S:St)(d:Nat)(sh:Sh)(cs:List AR):St:=⟨put S.tm d ⟨sh,cs,S.nv⟩,S.bx,S.pin,S.nv+1⟩
def St.NN(S:St)(d:Nat)(cs:List AR):St:=⟨S.tm,put S.bx d ⟨cs,S.nv⟩,S.pin,S.nv+1⟩
def Km(r:CC)(l:AR):Bool:=isR l.Bz r
def E2(r:CC):AR->Bool|.vw (.own r' _) _ _=>CC.is r' r|.vp (.own r' _) _=>CC.is r' r|_=>false
def Ec(d:Nat)(l:AR):Bool:=match l.Bz with|some (.tmp s _)=>Nat.beq s d|_=>false
def FK(d:Nat):AR->Bool|.fn _ caps=>caps.any fun l=>isN l.K6 d|l=>isN l.K6 d
def Kl(ks:List Nat):AR->Bool
 |.fn _ caps=>caps.any fun l=>match l.K6 with|some d=>!mem d ks|none=>false
 |l=>match l.K6 with|some d=>!mem d ks|none=>false
def Hz(ks:List Nat)(l:AR):Bool:=
 (match l.Bz with|some (.tmp s _)=>!mem s ks|_=>false)||Kl ks l
def YI(ks:List Nat)(l:AR):Bool:=match l.Bz with|some (.tmp s _)=>mem s ks|_=>false
def St.Hj(S:St)(ks:List Nat):St:=⟨KS S.nv (YI ks) (Iz ks S.tm),KR S.nv (YI ks) S.bx,S.pin,S.nv+1⟩
def St.clean(S:St)(ks:List Nat):St:=⟨KS S.nv (Hz ks) (F6 ks S.tm),KR S.nv (Hz ks) (F6 ks S.bx),S.pin,S.nv+1⟩
def AR.refs(l:AR):List Nat:=(match l.Bz with|some (.tmp s _)=>[s]|some (.cell b _)=>[b]|none=>[])++names l
def AU7(ks:List Nat):List (Nat×Ent)->List Nat
 | []=>[]|(k,e)::r=>match mem k ks with|true=>e.cs.flatMap AR.refs++AU7 ks r|false=>AU7 ks r
def AU6(ks:List Nat):List (Nat×Bx)->List Nat
 | []=>[]|(k,e)::r=>match mem k ks with|true=>e.cs.flatMap AR.refs++AU6 ks r|false=>AU6 ks r
def St.clo(S:St):Nat->List Nat->List Nat
 |0,ks=>ks|n+1,ks=>match (AU7 ks S.tm++AU6 ks S.bx).filter (fun k=>!mem k ks) with| []=>ks|more=>S.clo n (ks++more)
def St.qO(S:St)(ks:List Nat):St:=S.clean (S.clo 6 (S.pin++ks))
def St.at(S:St):CC->Option AR
 |.tmp s c=>match get S.tm s with|some e=>e.cs[c]?|none=>none
 |.cell b c=>match get S.bx b with|some ls=>ls.cs[c]?|none=>none
def St.Bh(S:St)(r:CC)(l:AR):St:=
 match r with
 |.tmp s c=>match get S.tm s with|some e=>S.JM s e.sh (e.cs.set c l)|none=>S
 |.cell b c=>match get S.bx b with|some ls=>S.NN b (ls.cs.set c l)|none=>S
inductive Rw where
 |nl|of(c:C)(xs:List c.D)
def content:U->Option Rw|.nil=>some .nl|.sl c xs=>some (.of c xs)|_=>none
def lD{α:Type}(sub:Option (Nat×Nat))(xs:List α):List α:=
 match sub with
 |none=>xs|some (lo,n)=>(xs.drop lo).take n
def Rw.sub(sub:Option (Nat×Nat)):Rw->Rw|.nl=>.nl|.of c xs=>.of c (lD sub xs)
def Rw.as(c:C):Rw->Option (List c.D)|.nl=>some []|.of c' xs=>if h:c'=c then some (h▸xs) else none
def AGP(sub:Option (Nat×Nat)):U->U|.sl c xs=>.sl c (lD sub xs)|x=>x
def St.elems(S:St):AR->Option Rw
 |.al r sub=>match S.at r with
  |some (.ow x)=>match content x with|some w=>some (w.sub sub)|none=>none
  |_=>none
 |.vw _ c xs=>some (.of c xs)|.t .nil=>some .nl|_=>none
def AR.ali(s c:Nat):AR->AR|.ow _=>.al (.tmp s c) none|.owh _ _ _=>.al (.tmp s c) none|l=>l
def Qc(s:Nat):Nat->List AR->List AR|_,[]=>[]|c,l::ls=>l.ali s c::Qc s (c+1) ls
def oY:U->AR|.sl c xs=>.vw (.old 0) c xs|x=>.t x
inductive YO where
 |tmp(t:Nat)|k(x:U)|fn(n:Nat)
def St.rd(S:St):YO->Option En
 |.tmp s=>match get S.tm s with|some e=>some ⟨e.sh,Qc s 0 e.cs⟩|none=>none
 |.k x=>some ⟨.one,[oY x]⟩|.fn n=>some ⟨.one,[.fn n []]⟩
def St.rds(S:St):List YO->Option (List En)
 | []=>some []|x::xs=>match S.rd x,S.rds xs with|some e,some es=>some (e::es)|_,_=>none
def St.Ds(S:St)(d:Nat)(sh:Sh)(cs:List AR):Option St:=
 match mem d S.pin with|true=>none|false=>match get S.tm d with|none=>some (S.JM d sh cs)|some _=>some ((S.kill (Ec d)).JM d sh (D8 (Ec d) cs))
def Rm(l l':AR):Bool:=
 (match l.Bz with|some r=>isR l'.Bz r|none=>false)||(names l).any (fun id=>FK id l')||(names l').any (fun id=>FK id l)
def P8(l l':AR):Bool:=
 (match l.Bz with|some r=>isR l'.Bz r|none=>false)||(names l).any (fun id=>FK id l')
def tG:AR->Bool|.al _ _=>true|_=>false
def NJ:List AR->Bool
 | []=>true|l::ls=>(ls.all fun l'=>!((tG l||tG l')&&(match l.Bz with|some r=>isR l'.Bz r|none=>l'.Bz.isNone)))&&NJ ls
def St.out(S:St)(r:CC):St:=(S.Bh r (.t .top)).kill (Km r)
def St.nl0(S:St)(r:CC)(c:C):AR:=match r with|.cell id _=>(match mem id S.pin with|true=>.vw (.old id) c []|false=>.ow (.sl c []))|.tmp _ _=>.ow (.sl c [])
def St.turn(S:St)(r:CC):St:=match S.at r with
 |some (.al r' none)=>match S.at r' with|some (.ow x)=>((S.out r').Bh r (.ow x)).Bh r' (.al r none)|some (.owh c xs hs)=>((S.out r').Bh r (.owh c xs hs)).Bh r' (.al r none)|_=>S
 |_=>S
def St.YZ(S:St)(r:CC)(c:C):St:=match Nat.beq c.size 0 with
 |true=>S.turn r|false=>match S.at r with|some (.t .nil)=>S.Bh r (S.nl0 r c)|_=>S
def St.Py(S:St):List (CC×C)->St| []=>S|(r,c)::ns=>St.Py (S.YZ r c) ns
def I9:St->List AR->Option (St×List AR)
 |S,[]=>some (S,[])|S,l::ls=>match l with
  |.al r sub=>match S.at r with
   |some (.ow x)=>match I9 (S.out r) ls with|some (S',ls')=>some (S',.ow (AGP sub x)::ls')|none=>none
   |_=>none
  |l=>match I9 S ls with|some (S',ls')=>some (S',l::ls')|none=>none
def KU(S:St)(ls:List AR):Option (St×List AR):=if NJ ls=true then I9 S ls else none
def qJ(S:St)(x:YO)(ls:List AR):Option (St×List AR):=match x with|.tmp s=>(match mem s S.pin with|true=>some (S,ls)|false=>KU S ls)|_=>KU S ls
def QQ:U->Bool|.top=>true|_=>false
def YM:U->Bool|.top=>true|.un=>true|_=>false
def St.pull(S:St)(r:CC)(i j:Nat):Option St:=
 match S.at r with
 |some (.ow (.sl c xs))=>some ((S.Bh r (.owh c xs [(i,j)])).kill (E2 r))|some (.owh c xs hs)=>some ((S.Bh r (.owh c xs (hs++[(i,j)]))).kill (E2 r))|_=>none
def onR(r:CC):List AR->Bool| []=>false|l::ls=>isR l.Bz r||onR r ls
def DW:St->List AR->Option (St×List U)
 |S,[]=>some (S,[])|S,l::ls=>match l with
  |.t x=>if QQ x=true then none else match DW S ls with|some (S',cs)=>some (S',x::cs)|none=>none
  |.al r sub=>match S.at r with
   |some (.ow x)=>match DW (S.out r) ls with|some (S',cs)=>some (S',AGP sub x::cs)|none=>none
   |_=>none
  |.vw (.own r p) c xs=>match p with
   |none=>match S.at r with
    |some (.ow _)=>match DW (S.out r) ls with|some (S',cs)=>some (S',.sl c xs::cs)|none=>none
    |_=>none
   |some (i,j)=>if onR r ls=true then none else match S.pull r i j with
    |some S1=>match DW S1 ls with|some (S',cs)=>some (S',.sl c xs::cs)|none=>none
    |none=>none
  |_=>none
def St.Gz(S:St):AR->Option U
 |.t x=>some x|.al r sub=>match S.at r with|some (.ow x)=>some (AGP sub x)|_=>none
 |.vw _ c xs=>some (.sl c xs)|.ow x=>some x|_=>none
def St.Gu(S:St):List AR->Option (List U)
 | []=>some []|l::ls=>match S.Gz l,S.Gu ls with|some x,some xs=>some (x::xs)|_,_=>none
def OF(k:Nat):AR->Option U|.t x=>some x|.vw (.old k') c xs=>if k'=k then some (.sl c xs) else none|_=>none
def FH(k:Nat):List AR->Option (List U)
 | []=>some []|l::ls=>match OF k l,FH k ls with|some x,some xs=>some (x::xs)|_,_=>none
def DL:List AR->Nat| []=>0|.vw (.old k) _ _::_=>k|_::ls=>DL ls
def D4(k:Nat):U->AR|.sl c xs=>.vw (.old k) c xs|.mp _=>.t .top|x=>.t x
def I6:U->AR|.sl c xs=>.ow (.sl c xs)|.mp ks=>.ow (.mp ks)|.nil=>.ow .nil|x=>.t x
def J0(s:Src):U->AR|.sl c xs=>.vw s c xs|.mp _=>.t .top|x=>.t x
def Ng:List AR->Bool| []=>true|l::ls=>l.Bz.isNone&&Ng ls
def P3:AR->Bool|.t _=>true|.al _ none=>true|.vw (.own _ (some _)) _ _=>true|_=>false
def AYz(S:St):Bool->Cap->Option (List U)
 |false,.t x=>some [x]|false,.vw _ c xs=>some [.sl c xs]|true,.bp id off=>match get S.bx id with|some ls=>if Ng ls.cs=true then S.Gu (ls.cs.drop off) else none|none=>none
 |true,.vp _ cs=>some cs|_,_=>none
def AG4(S:St):(l:List (Bool×C))->List Cap->Option (po l)
 | [],[]=>some ()|(m,c)::r,l::ls=>match AYz S m l with
  |some us=>match ofC c us,AG4 S r ls with|some x,some y=>some (x,y)|_,_=>none
  |none=>none
 |_,_=>none
section
variable(R:List GF)
def AYq(S:St)(c:C)(e:En):Option c.D:=match S.Gu e.cs with|some us=>ofC c us|none=>none
def AYo(S:St)(fs:List Nat)(l:List (Bool×C))(e:En):Option (po l):=
 match e with
 |⟨.one,[.fn n caps]⟩=>match fs with|n'::_=>if n'=n then AG4 S l caps else none| []=>none
 |_=>none
def AYp(S:St)(c:C)(e:En):Option c.D:=
 match e with
 |⟨.one,[.bp id off]⟩=>match get S.bx id with
  |some ls=>if Ng ls.cs=true then match S.Gu (ls.cs.drop off) with|some us=>ofC c us|none=>none else none
  |none=>none
 |⟨.one,[.vp _ cs]⟩=>ofC c cs|_=>none
def AYn(S:St)(c:C)(e:En):Option c.D:=
 match e with
 |⟨.one,[.bp id 0]⟩=>match get S.bx id with
  |some ls=>match FH (DL ls.cs) ls.cs with|some us=>ofC c us|none=>none
  |none=>none
 |_=>none
def PK.Ed:PK->Bool|.o _=>true|.m _=>true|_=>false
def PK.writes:PK->Bool|.b _=>true|.o _=>true|.m _=>true|_=>false
def Gy:List PK->List En->List AR|k::ks,e::es=>(if PK.Ed k=true then e.cs else [])++Gy ks es|_,_=>[]
def ANK:Sh->Sh->Bool|.one,.one=>true|.agg,.agg=>true|_,_=>false
def IL(S:St):List Nat->(ks:List PK)->List En->List U->Option (A ks)
 |_,[],[],_=>some ()|fs,k::ks,e::es,us=>match k with
  |.o c=>if ANK e.sh (shC c)=true then match ofC c (us.take e.cs.length),IL S fs ks es (us.drop e.cs.length) with|some x,some y=>some (x,y)|_,_=>none else none
  |.m c=>if ANK e.sh (shC c)=true/\e.cs.all P3=true/\Fk e.sh e.cs.length=true then match ofC c (us.take e.cs.length),IL S fs ks es (us.drop e.cs.length) with|some x,some y=>some (x,y)|_,_=>none else none
  |.f x l=>match AYo S fs l e,IL S fs.tail ks es us with|some x,some y=>some (x,y)|_,_=>none
  |.v c=>if ANK e.sh (shC c)=true then match AYq S c e,IL S fs ks es us with|some x,some y=>some (x,y)|_,_=>none else none
  |.p c=>match AYp S c e,IL S fs ks es us with|some x,some y=>some (x,y)|_,_=>none
  |.b c=>match AYn S c e,IL S fs ks es us with|some x,some y=>some (x,y)|_,_=>none
 |_,_,_,_=>none
def EM:St->List PK->List En->St
 |S,k::ks,e::es=>match k with
  |.b _=>match e with
   |⟨.one,[.bp id 0]⟩=>match get S.bx id with|some ls=>EM (S.NN id (ls.cs.map fun _=>.t .top)) ks es|none=>EM S ks es
   |_=>EM S ks es
  |_=>EM S ks es
 |S,_,_=>S
def UQ(S:St)(fs:List Nat)(ks:List PK)(es:List En):Option (St×A ks):=
 match DW S (Gy ks es) with
 |some (S1,us)=>match IL S fs ks es us with|some a=>some (EM S1 ks es,a)|none=>none
 |none=>none
def Gw{ρ:Type}:St->List AR->List U->(St->Option ρ)->Option ρ
 |S,[],[],K=>K S|S,l::ls,o::os,K=>match l with
  |.al r none=>Gw (S.Bh r (.ow o)) ls os K|.vw (.own r (some (i,j))) _ _=>match S.at r with
   |some (.owh c xs ((i',j')::hs))=>if j'=j/\hs.all (fun p=>!Nat.beq p.2 j)=true then gd (i'=i) (bd xs[i]? fun x=>match ofC c ((cells c x).set j o) with
    |some x'=>Gw ((S.Bh r (match hs with | []=>.ow (.sl c (xs.set i x'))|_=>.owh c (xs.set i x') hs)).kill (E2 r)) ls os K
    |none=>none)
    else none
   |_=>none
  |.t _=>Gw S ls os K|_=>none
 |_,_,_,_=>none
def FG{ρ:Type}(S0:St):St->List PK->List En->List (List U)->(St->Option ρ)->Option ρ
 |S,[],_,[],K=>K S|S,k::ks,e::es,outs,K=>match k with
  |.b _=>match e,outs with
   |⟨.one,[.bp id 0]⟩,o::outs=>match get S0.bx id,get S.bx id with|some ls,some ls1=>if o.length=ls1.cs.length then FG S0 (S.NN id (o.map (D4 (DL ls.cs)))) ks es outs K else none|_,_=>none
   |_,_=>none
  |.m _=>match outs with|o::outs=>Gw S e.cs o fun S'=>FG S0 S' ks es outs K|_=>none
  |_=>FG S0 S ks es outs K
 |_,_,_,_,_=>none
def shares(e e':En):Bool:=e.cs.any fun l=>e'.cs.any fun l'=>Rm l l'
def OI:List En->List PK->List En->Bool|prev,k::ks,e::es=>(PK.writes k&&(prev.any (shares e)||es.any (shares e)))||OI (e::prev) ks es|_,_,_=>false
def AGJ:Option En->Option U|some ⟨.one,[.t x]⟩=>some x|_=>none
def St.sc(S:St)(x:YO):Option U:=AGJ (S.rd x)
def Aaf:U->Option Int|.int _ n=>some n|.u8 x=>some (x.toNat:Int)|_=>none
def St.nat(S:St)(x:YO):Option Int:=match S.sc x with|some u=>Aaf u|none=>none
def St.one(S:St)(x:YO):Option AR:=match S.rd x with|some ⟨.one,[l]⟩=>some l|_=>none
def eqU:Kd->U->U->Option Bool|.i,.int k a,.int k' b=>if k=k' then some (a==b) else none|.b,.bool a,.bool b=>some (a==b)|.s,.str a,.str b=>some (a==b)|_,_,_=>none
def ABF:List Kd->List U->List U->Option Bool
 | [],[],[]=>some true|k::ks,a::as,b::bs=>match eqU k a b,ABF ks as bs with|some x,some y=>some (x&&y)|_,_=>none
 |_,_,_=>none
def UM:List AR->Option (List U)
 | []=>some []|.t x::ls=>match UM ls with|some us=>some (x::us)|none=>none
 |_=>none
section
variable{ρ:Type}
def gdc(cst:Bool)(p:Prop) [Decidable p] (x:Option ρ):Option ρ:=match cst with|true=>if p then x else none|false=>gd p x
def AZP(cst:Bool)(op:BinOp)(k:IntKind)(a b:Int)(K:U->Option ρ):Option ρ:=
 match op with
 |.add=>K (.int k (k.wrap (a+b)))|.sub=>K (.int k (k.wrap (a-b)))|.mul=>K (.int k (k.wrap (a*b)))|.quo=>gdc cst (b≠0) (K (.int k (k.wrap (a.tdiv b))))|.rem=>gdc cst (b≠0) (K (.int k (a.tmod b)))|.and=>K (.int k (k.wrap (BitVec.ofInt k.bits a &&& BitVec.ofInt k.bits b).toNat))|.or=>K (.int k (k.wrap (BitVec.ofInt k.bits a |||BitVec.ofInt k.bits b).toNat))|.xor=>K (.int k (k.wrap (BitVec.ofInt k.bits a ^^^ BitVec.ofInt k.bits b).toNat))|.eql=>K (.bool (a==b))|.neq=>K (.bool (a != b))|.lss=>K (.bool (decide (a<b)))|.leq=>K (.bool (decide (a<=b)))|.gtr=>K (.bool (decide (a>b)))|.geq=>K (.bool (decide (a>=b)))|_=>none
def shU(cst:Bool)(op:BinOp)(k:IntKind)(a b:Int)(K:U->Option ρ):Option ρ:=
 match op with
 |.shl=>gdc cst (¬b<0) (K (.int k (k.wrap (a*2 ^ (min b.toNat k.bits)))))|.shr=>gdc cst (¬b<0) (K (.int k (a.fdiv (2 ^ (min b.toNat k.bits)))))|_=>none
def byU(op:BinOp)(a b:Int)(K:U->Option ρ):Option ρ:=
 match op with
 |.add=>K (.u8 (toB (a+b)))|.sub=>K (.u8 (toB (a-b)))|.mul=>K (.u8 (toB (a*b)))|.and=>K (.u8 (toB (BitVec.ofInt IntKind.u8.bits a &&& BitVec.ofInt IntKind.u8.bits b).toNat))|.or=>K (.u8 (toB (BitVec.ofInt IntKind.u8.bits a |||BitVec.ofInt IntKind.u8.bits b).toNat))|.xor=>K (.u8 (toB (BitVec.ofInt IntKind.u8.bits a ^^^ BitVec.ofInt IntKind.u8.bits b).toNat))|.eql=>K (.bool (a==b))|.neq=>K (.bool (a != b))|.lss=>K (.bool (decide (a<b)))|.leq=>K (.bool (decide (a<=b)))|.gtr=>K (.bool (decide (a>b)))|.geq=>K (.bool (decide (a>=b)))|_=>none
def AWz:BinOp->Bool|.shl=>true|.shr=>true|_=>false
def AYt(cst:Bool)(op:BinOp):U->U->(U->Option ρ)->Option ρ
 |.int k a,.int k' b,K=>if AWz op=true then shU cst op k a b K else if k=k' then (if k=.u8 then none else AZP cst op k a b K) else none|.int k a,.u8 b,K=>if AWz op=true then shU cst op k a b.toNat K else none|.u8 a,.u8 b,K=>byU op a.toNat b.toNat K|.str a,.str b,K=>match op with|.add=>gd (a.length+b.length<=N5) (K (.str (a++b)))|.eql=>K (.bool (a==b))|.neq=>K (.bool (a != b))|_=>none
 |_,_,_=>none
def eqK(op:BinOp)(b:Bool)(K:U->Option ρ):Option ρ:=match op with|.eql=>K (.bool b)|.neq=>K (.bool !b)|_=>none
def St.T2(S:St)(l:AR)(K:Bool->Option ρ):Option ρ:=
 match l with
 |.t .nil=>K true|.vw _ _ xs=>gd (xs.isEmpty=false) (K false)|.al r none=>match S.at r with|some (.ow .nil)=>K true|some (.ow (.sl _ xs))=>gd (xs.isEmpty=false) (K false)|_=>none
 |_=>none
def St.bin(S:St)(cst:Bool)(c:Cls)(op:BinOp)(x y:En)(K:U->Option ρ):Option ρ:=
 match c with
 |.num=>match x,y with|⟨.one,[.t a]⟩,⟨.one,[.t b]⟩=>AYt cst op a b K|_,_=>none
 |.bool=>match x,y with|⟨.one,[.t (.bool a)]⟩,⟨.one,[.t (.bool b)]⟩=>eqK op (a==b) K|_,_=>none
 |.sl=>match x,y with|⟨.one,[l]⟩,⟨.one,[.t .nil]⟩=>S.T2 l fun b=>eqK op b K|_,_=>none
 |.agg ks=>match x,y with
  |⟨.agg,as⟩,⟨.agg,bs⟩=>match UM as,UM bs with
   |some as,some bs=>match ABF ks as bs with|some b=>eqK op b K|none=>none
   |_,_=>none
  |_,_=>none
def unU(op:UnOp)(x:U)(K:U->Option ρ):Option ρ:=
 match x with
 |.bool b=>match op with|.not=>K (.bool !b)|_=>none
 |.int k n=>match op with|.neg=>if k=.u8 then none else K (.int k (k.wrap (0-n)))|_=>none
 |_=>none
def mkInt(k:IntKind)(n:Int):U:=match k with|.u8=>.u8 (toB n)|k=>.int k (k.wrap n)
end
def AX1:List U->Bool| []=>true|.sl _ _::_=>false|.top::_=>false|.mp _::_=>false|_::us=>AX1 us
def Sv:C->Bool
 |.l _=>false|.m=>false|.st n=>match AYh n with|some z=>AX1 (ADL n z)|none=>false
 |.un _=>false|_=>true
def AV0(c:C)(x:U)(ys:List c.D):Option U:=
 match x with
 |.sl c' xs=>if h:c'=c then some (.sl c ((h▸xs)++ys)) else none|_=>some (.sl c ys)
def N7(c:C)(fl:Bool)(S:St)(l:AR):Option (St×List c.D):=
 match l with
 |.t (.str s)=>match Rw.as c (.of .u s) with|some xs=>some (S,xs)|none=>none
 |.t .nil=>some (S,[])|.vw _ c' xs=>if Sv c=true then match Rw.as c (.of c' xs) with|some ys=>some (S,ys)|none=>none else none
 |.al r sub=>match S.at r with
  |some (.ow x)=>match content x with
   |some w=>match Rw.as c (w.sub sub) with|some ys=>if fl=true then (if Sv c=true then some (S,ys) else none) else some (S.out r,ys)|none=>none
   |none=>none
  |_=>none
 |_=>none
def QK(c:C)(S:St)(l:AR):Option (St×U×Nat×Option (Nat×Nat)):=
 match l with
 |.t .nil=>some (S,.nil,0,none)|.al r sub=>match S.at r with
  |some (.ow x)=>match content x with
   |some w=>match Rw.as c w with
    |some xs=>some (S.out r,AGP sub x,(lD sub xs).length,match sub with|none=>none|some (lo,n)=>some (lo+n,xs.length))
    |none=>none
   |none=>none
  |_=>none
 |.vw (.own r (some (i,j))) c' xs=>if c'=c then match S.pull r i j with|some S'=>some (S',.sl c' xs,xs.length,none)|none=>none else none
 |_=>none
def gdo{γ:Type}(p:Option (Nat×Nat))(x:Option γ):Option γ:=match p with|none=>x|some (a,b)=>gd (a=b) x
def Lh(off:Nat):AR->Option AR|.bp id o=>some (.bp id (o+off))|.ep r i j=>some (.ep r i (j+off))|.vp s cs=>some (.vp s (cs.drop off))|_=>none
def Ip(r:CC)(i:Nat):Nat->List U->List AR|_,[]=>[]|j,x::xs=>J0 (.own r (some (i,j))) x::Ip r i (j+1) xs
def PQ(b:Nat):Nat->List AR->List AR|_,[]=>[]|c,.ow _::ls=>.al (.cell b c) none::PQ b (c+1) ls|c,.owh _ _ _::ls=>.al (.cell b c) none::PQ b (c+1) ls|c,l::ls=>l::PQ b (c+1) ls
def Hc(b o n:Nat)(l:AR):Bool:=match l.Bz with|some (.cell b' c)=>Nat.beq b' b&&Nat.ble o c&&Nat.blt c (o+n)|_=>false
def HV:List AR->Bool| []=>false|.t .top::_=>true|.und::_=>true|_::ls=>HV ls
def QP:AR->Bool|.bp _ _=>true|.ep _ _ _=>true|.vp _ _=>true|_=>false
section
variable{ρ:Type}
def St.load(S:St)(n:Nat)(l:AR)(K:List AR->Option ρ):Option ρ:=
 match l with
 |.bp id o=>match get S.bx id with|some ls=>if o+n<=ls.cs.length then K (PQ id o ((ls.cs.drop o).take n)) else none|none=>none
 |.ep r i j=>match S.at r with|some (.ow (.sl c xs))=>bd (at? xs i) fun x=>if j+n<=(cells c x).length then K (Ip r i.toNat j (((cells c x).drop j).take n)) else none|_=>none
 |.vp s cs=>if n<=cs.length then K ((cs.take n).map (J0 s.up)) else none|_=>none
def Nw(i j n:Nat):List (Nat×Nat)->Prop| []=>True|(i',j')::hs=>i'=i/\(j<=j'/\j'<j+n)/\Nw i j n hs
def aP(i j n:Nat):(hs:List (Nat×Nat))->Decidable (Nw i j n hs)| []=>.isTrue trivial|(i',j')::hs=>@instDecidableAnd _ _ (instDecidableEqNat i' i) (@instDecidableAnd _ _ (@instDecidableAnd _ _ (Nat.decLe j j') (Nat.decLt j' (j+n))) (aP i j n hs))
def W0(n:Nat)(S:St)(ls:List AR):Option (St×List AR):=match Nat.blt n 1048576 with|true=>KU S ls|false=>some (S,ls)
def St.QE(S:St)(n:Nat)(p:AR)(cs:List AR)(K:St->Option ρ):Option ρ:=
 match p with
 |.bp id o=>match W0 n S cs with
  |some (S',cs')=>if HV cs'=true then none else
   let S2:=S'.kill (Hc id o cs'.length)
   match get S2.bx id with
   |some ls=>if o+cs'.length<=ls.cs.length then K (S2.NN id (Dd ls.cs o (D8 (Hc id o cs'.length) cs'))) else none|none=>none
  |none=>none
 |.ep r i j=>match DW S cs with
  |some (S',us)=>match S'.at r with
   |some (.ow (.sl c xs))=>bd (at? xs i) fun x=>if j+us.length<=(cells c x).length then match ofC c (Dd (cells c x) j us) with
    |some x'=>K ((S'.Bh r (.ow (.sl c (xs.set i.toNat x')))).kill (E2 r))|none=>none
    else none
   |some (.owh c xs hs)=>bd (at? xs i) fun x=>if j+us.length<=(cells c x).length then match ofC c (Dd (cells c x) j us) with
    |some x'=>@gd _ (Nw i.toNat j us.length hs) (aP i.toNat j us.length hs) (K ((S'.Bh r (.ow (.sl c (xs.set i.toNat x')))).kill (E2 r)))|none=>none
    else none
   |_=>none
  |none=>none
 |_=>none
end
def LU(S:St):List AR->List (Nat×Nat×YO)->Option (List AR)
 |ls,[]=>some ls|ls,(o,n,x)::ps=>match S.rd x with|some e=>if e.cs.length=n/\Fk e.sh n=true/\HV e.cs=false/\o+n<=ls.length then LU S (Dd ls o e.cs) ps else none|none=>none
def ABh(i n:Nat):List (Nat×YO)->Bool| []=>i==n|(k,_)::ps=>k==i&&ABh (i+1) n ps
def bsL(c:C)(n:Nat):St->List (Nat×YO)->Option (St×List c.D)
 |S,[]=>some (S,[])|S,(i,x)::ps=>match S.rd x with
  |some e=>if e.cs.length=c.size/\Fk e.sh e.cs.length=true/\i<n then match DW S e.cs with
   |some (S',us)=>match ofC c us,bsL c n S' ps with|some y,some (S2,ys)=>some (S2,y::ys)|_,_=>none
   |none=>none
   else none
  |none=>none
def bsK(c:C)(n:Nat):St->List c.D->List (Nat×YO)->Option (St×List c.D)
 |S,xs,[]=>some (S,xs)|S,xs,(i,x)::ps=>match S.rd x with
  |some e=>if e.cs.length=c.size/\Fk e.sh e.cs.length=true/\i<n then match DW S e.cs with
   |some (S',us)=>match ofC c us with|some y=>bsK c n S' (xs.set i y) ps|none=>none
   |none=>none
   else none
  |none=>none
def ABi:Sh->Bool|.one=>true|_=>false
def St.wide(S:St)(c:C):AR->Bool
 |.vw _ c' _=>decide (c'=c)|.al r _=>match S.at r with
  |some (.ow x)=>match x with|.sl c' _=>decide (c'=c)|_=>true
  |some (.owh c' _ _)=>decide (c'=c)|_=>false
 |_=>true
inductive YOp where
 |mv(d:Nat)(x:YO)|as(d:Nat)(x:YO)|pick(d:Nat)(c a b:YO)|alloc(d:Nat)(zs:List U)|box(d:Nat)(x:YO)|build(d:Nat)(zs:List U)(parts:List (Nat×Nat×YO))|B9(d:Nat)(n:Nat)(c:C)(parts:List (Nat×YO))|ld(d:Nat)(n:Option Nat)(x:YO)|st(n:Nat)(x v:YO)|chk(d:Nat)(x:YO)|bin(d:Nat)(c:Cls)(op:BinOp)(x y:YO)|un(d:Nat)(op:UnOp)(x:YO)|cvI(d:Nat)(k:IntKind)(x:YO)|MF(d:Nat)(x:YO)|Np(d:Nat)(x:YO)|MK(d:Nat)(n:Nat)(caps:List YO)|LM(d:Nat)(c:C)(n:YO)|sub(d:Nat)(c:C)(x:YO)(lo hi:Option YO)|UJ(d:Nat)(x:YO)(lo hi:Option YO)|fa(d:Nat)(off:Nat)(x:YO)|fld(d:Nat)(off:Nat)(n:Option Nat)(x:YO)|ia(d:Nat)(c:C)(x i:YO)|ix(d:Nat)(x i:YO)|ext(d:Nat)(x:YO)(i:Nat)|call (d:Nat) (g:GF) (fs:List Nat) (hf:fs.map (fun n=>(R[n]?).map GF.x)=(fX g.ps).map some) (args:List YO)|Dm(d:Nat)(x:YO)(ms:List Md)(args:List YO)|len(d:Nat)(x:YO)|lens(d:Nat)(x:YO)|app(d:Nat)(c:C)(fl:Bool)(x y:YO)|Qd(d:Nat)(c:C)(x n:YO)|cpy(d:Nat)(c:C)(x y:YO)|mm(d:Nat)(isMax:Bool)(x y:YO)|mmk(d:Nat)|Si(d:Nat)(x k:YO)|RY(x k v:YO)|Sj(d:Nat)(x:YO)|bad(d:Option Nat)|drop(ds:List Nat)|T3(ns:List (CC×C))
section
variable {R} {ρ:Type}
def range(S:St)(len:Nat)(lo hi:Option YO)(K:Nat->Nat->Option ρ):Option ρ:=
 match lo,hi with
 |none,none=>K 0 len|some x,none=>match S.nat x with|some a=>gd (0<=a/\a<=(len:Int)) (K a.toNat len)|none=>none
 |none,some y=>match S.nat y with|some b=>gd (0<=b/\b<=(len:Int)) (K 0 b.toNat)|none=>none
 |some x,some y=>match S.nat x,S.nat y with|some a,some b=>gd (0<=a/\a<=b/\b<=(len:Int)) (K a.toNat b.toNat)|_,_=>none
def part{α:Type}(lo hi:Option YO)(xs:List α)(a b:Nat):List α:=
 match lo,hi with
 |none,none=>xs|some _,none=>xs.drop a|none,some _=>xs.take b|some _,some _=>(xs.drop a).take (b-a)
def AXL{α γ:Type}(s:Nat)(a:α):List (Nat×α)->(List (Nat×α)->γ)->γ
 | [],K=>K [(s,a)]|(k,b)::r,K=>match Nat.beq s k with
  |true=>K ((s,a)::r)|false=>match Nat.ble s k with|true=>K ((s,a)::(k,b)::r)|false=>AXL s a r fun r=>K ((k,b)::r)
def G2(S:St)(d:Nat)(sh:Sh)(cs:List AR)(K:St->Option ρ):Option ρ:=
 match mem d S.pin with
 |true=>none|false=>match get S.tm d with|none=>aM sh fun sh=>SL cs fun cs=>DH S.nv fun v=>AXL d ⟨sh,cs,v⟩ S.tm fun tm=>K ⟨tm,S.bx,S.pin,v+1⟩|some _=>((S.kill (Ec d)).JM d sh (D8 (Ec d) cs)).FP K
def jX(S:St)(e:En):Option Nat:=
 match e with
 |⟨.one,[.bp id _]⟩=>match get S.bx id with|some ls=>if (FH (DL ls.cs) ls.cs).isSome=true then some (DL ls.cs) else none|none=>none
 |e=>if (FH (DL e.cs) e.cs).isSome=true then some (DL e.cs) else none
def jY(ks:List PK)(S0:St)(es:List En)(k:Nat):Option Nat:=
 match es[k]? with
 |some e=>match ks[k]? with|some (.p _)=>none|_=>jX S0 e
 |none=>none
def Ot(S:St)(d:Nat)(ls:List AR)(K:St->Option ρ):Option ρ:=
 match mem d S.pin with|true=>none|false=>K (((S.kill (fun l=>Ec d l||FK d l)).JM d .one [.bp d 0]).NN d ls)
def Qi:(cs:List C)->Tu cs->List (List U)| [],_=>[]| [c],x=>[cells c x]|c::c'::cs,x=>cells c x.1::Qi (c'::cs) x.2
def post(d:Nat)(g:GF)(es:List En)(S0 S:St)(r:Tu (g.rk.cs++Kn g.ps))(K:St->Option ρ):Option ρ:=
 FG S0 S g.ps es ((Qi _ r).drop g.rk.cs.length) fun S'=>
  match g.rk with
  |.ptr k _=>match jY g.ps S0 es k with|some lab=>Ot S' d (((Qi _ r).take g.rk.cs.length).flatten.map (D4 lab)) K|none=>none
  |.vw k _=>match jY g.ps S0 es k with|some lab=>G2 S' d .one (((Qi _ r).take g.rk.cs.length).flatten.map (D4 lab)) K|none=>none
  |.ret cs=>G2 S' d (ACi (cs.map wC)) (((Qi _ r).take g.rk.cs.length).flatten.map I6) K
def AG3(d:Nat)(g:GF)(fs:List Nat)(es:List En)(S:St)(K:St->Option ρ):Option ρ:=
 match OI [] g.ps es with
 |true=>none|false=>match UQ S fs g.ps es with|some (S1,a)=>bd (g.d a) fun r=>post d g es S S1 r K|none=>none
def qA(es:List En):Option (List Cap):=
 match es with
 | []=>some []|⟨.one,[l]⟩::es=>match l.AYy,qA es with|some c,some cs=>some (c::cs)|_,_=>none
 |_=>none
def St.On(S:St)(x:YO):Option (CC×List (Int×Int)):=
 match S.one x with
 |some (.al r none)=>match S.at r with|some (.ow (.mp ks))=>some (r,ks)|_=>none
 |_=>none
def ev(o:YOp R)(S:St)(K:St->Option ρ):Option ρ:=
 match o with
 |.mv d x=>match S.rd x with|some e=>G2 S d e.sh e.cs K|none=>none
 |.as d x=>match S.rd x with
  |some e=>match KU S e.cs with|some (S',cs)=>G2 S' d e.sh cs K|none=>none
  |none=>none
 |.pick d c a b=>match S.sc c,S.rd a,S.rd b with|some (.bool t),some ea,some eb=>br t (G2 S d ea.sh ea.cs K) (G2 S d eb.sh eb.cs K)|_,_,_=>none
 |.alloc d zs=>Ot S d (zs.map .t) K|.box d x=>match S.rd x with
  |some e=>match qJ S x e.cs with
   |some (S1,cs)=>if HV cs=true\/Fk e.sh e.cs.length=false then none else
    Ot S1 d (D8 (fun l=>Ec d l||FK d l) cs) K
   |none=>none
  |none=>none
 |.build d zs parts=>match LU S (zs.map .t) parts with|some ls=>G2 S d .agg ls K|none=>none
 |.B9 d n c parts=>match ADB c with
  |some z=>if n*c.size<=16777216 then match (if ABh 0 n parts=true then bsL c n S parts else bsK c n S (List.replicate n z) parts) with
   |some (S',xs)=>G2 S' d .one [.ow (.sl c xs)] K|none=>none
   else none
  |none=>none
 |.ld d n x=>match S.one x with|some p=>S.load (DX n) p fun ls=>G2 S d (shN n) ls K|none=>none
 |.st n x v=>match S.one x,S.rd v with|some p,some e=>if e.cs.length=n % 1048576/\Fk e.sh (n % 1048576)=true then S.QE n p e.cs K else none|_,_=>none
 |.chk d x=>match S.one x with|some p=>if QP p=true then G2 S d .one [p] K else none|none=>none
 |.bin d c op x y=>match S.rd x,S.rd y with
  |some ex,some ey=>S.bin (match y with|.k _=>true|_=>false) c op ex ey fun t=>G2 S d .one [.t t] K
  |_,_=>none
 |.un d op x=>match S.sc x with|some a=>unU op a fun t=>G2 S d .one [.t t] K|none=>none
 |.cvI d k x=>match S.nat x with|some n=>G2 S d .one [.t (mkInt k n)] K|none=>none
 |.MF d x=>match S.sc x with|some (.str s)=>G2 S d .one [.ow (.sl .u s)] K|_=>none
 |.Np d x=>match S.one x with
  |some l=>match S.elems l with
   |some w=>match Rw.as .u w with|some bs=>G2 S d .one [.t (.str bs)] K|none=>none
   |none=>none
  |none=>none
 |.MK d n caps=>match S.rds caps with
  |some es=>match qA es with|some cs=>G2 S d .one [.fn n cs] K|none=>none
  |none=>none
 |.LM d c n=>match S.nat n with
  |some n=>match ADB c with|some z=>gd (0<=n/\n<=(lim:Int)) (G2 S d .one [.ow (.sl c (List.replicate n.toNat z))] K)|none=>none
  |none=>none
 |.UJ d x lo hi=>match S.sc x with|some (.str s)=>range S s.length lo hi fun a b=>G2 S d .one [.t (.str (part lo hi s a b))] K|_=>none
 |.sub d c x lo hi=>match S.one x with
  |some l=>if S.wide c l=true then match l with
   |.al r sub=>match S.elems l with
    |some w=>match Rw.as c w with
     |some xs=>range S xs.length lo hi fun a b=>G2 S d .one [.al r (some (match sub with|none=>(a,b-a)|some (lo0,_)=>(lo0+a,b-a)))] K
     |none=>none
    |none=>none
   |.vw s c' xs=>range S xs.length lo hi fun a b=>G2 S d .one [.vw s.up c' (part lo hi xs a b)] K|.t .nil=>range S 0 lo hi fun _ _=>G2 S d .one [.t .nil] K|_=>none
   else none
  |none=>none
 |.fa d off x=>match S.one x with
  |some p=>match Lh off p with|some q=>G2 S d .one [q] K|none=>none
  |none=>none
 |.fld d off n x=>match S.rd x with|some ⟨.agg,cs⟩=>if off+DX n<=cs.length then G2 S d (shN n) ((cs.drop off).take (DX n)) K else none|_=>none
 |.ia d c x i=>match S.one x,S.nat i with
  |some l,some n=>if S.wide c l=true then match l with
   |.al r sub=>match S.elems l with
    |some (.of _ xs)=>bd (at? xs n) fun _=>G2 S d .one [.ep r (match sub with|none=>n|some (lo,_)=>(lo:Int)+n) 0] K
    |_=>match sub with
     |none=>match S.at r with|some (.owh _ xs _)=>bd (at? xs n) fun _=>G2 S d .one [.ep r n 0] K|_=>none
     |_=>none
   |.vw s c' xs=>bd (at? xs n) fun x=>G2 S d .one [.vp s.up (cells c' x)] K|_=>none
   else none
  |_,_=>none
 |.ix d x i=>match S.sc x,S.nat i with|some (.str s),some n=>bd (at? s n) fun x=>G2 S d .one [.t (.u8 x)] K|_,_=>none
 |.ext d x i=>match x with
  |.tmp s=>match get S.tm s with
   |some ⟨.tup ns,cs,_⟩=>match ns[i]? with
    |some n=>
     let o:=Sk (ns.take i)
     if o+DX n<=cs.length then match KU S (((Qc s 0 cs).drop o).take (DX n)) with|some (S',ls)=>G2 S' d (shN n) ls K|none=>none
     else none
    |none=>none
   |_=>none
  |_=>none
 |.lens d x=>match S.sc x with|some (.str s)=>G2 S d .one [.t (.int .i64 s.length)] K|_=>none
 |.len d x=>match S.one x with
  |some l=>match S.elems l with|some (.of _ xs)=>G2 S d .one [.t (.int .i64 xs.length)] K|some .nl=>G2 S d .one [.t (.int .i64 0)] K|none=>none
  |none=>none
 |.app d c fl x y=>match S.one x,S.one y with
  |some lx,some ly=>match N7 c fl S ly with
   |some (S1,ys)=>match QK c S1 lx with
    |some (S2,b,n,e)=>gdo e (gd (n+ys.length<=lim) (match AV0 c b ys with|some u=>G2 S2 d .one [.ow u] K|none=>none))
    |none=>none
   |none=>none
  |_,_=>none
 |.Qd d c x n=>match S.one x,S.nat n,ADB c with
  |some lx,some k,some z=>gd (0<=k/\k<=(lim:Int)) (match QK c S lx with
   |some (S2,b,n,e)=>gdo e (gd (n+k.toNat<=lim) (match AV0 c b (List.replicate k.toNat z) with|some u=>G2 S2 d .one [.ow u] K|none=>none))
   |none=>none)
  |_,_,_=>none
 |.cpy d c x y=>match S.one x,S.one y with
  |some (.al r none),some ly=>match S.at r,S.elems ly with
   |some (.ow (.sl c' xs)),some w=>match Rw.as c w,Rw.as c (.of c' xs) with
    |some ys,some xs=>if S.wide c ly=true/\Sv c=true then
     gd (xs.isEmpty=false) (G2 ((S.Bh r (.ow (.sl c (ys.take xs.length++xs.drop ys.length)))).kill (E2 r)) d .one [.t (.int .i64 (min ys.length xs.length:Nat))] K)
     else none
    |_,_=>none
   |_,_=>none
  |_,_=>none
 |.mm d isMax x y=>match S.sc x,S.sc y with|some (.int k a),some (.int k' b)=>if k'=k then G2 S d .one [.t (.int k (if isMax=true then (if b>a then b else a) else (if b<a then b else a)))] K else none|_,_=>none
 |.mmk d=>G2 S d .one [.ow (.mp [])] K|.Si d x k=>match S.On x,S.sc k with|some (_,ks),some (.int .i64 n)=>G2 S d .one [.t (.int .i64 (Lc ks n))] K|_,_=>none
 |.RY x k v=>match S.On x,S.sc k,S.sc v with|some (r,ks),some (.int .i64 n),some (.int .i64 m)=>K ((S.Bh r (.ow (.mp (Iq ks n m)))).kill (E2 r))|_,_,_=>none
 |.Sj d x=>match S.On x with|some (_,ks)=>G2 S d .one [.t (.int .i64 ks.length)] K|none=>none
 |.bad _=>none|.drop ds=>K (S.Hj ds)|.T3 ns=>K (S.Py ns)|.call d g fs _ args=>match S.rds args with|some es=>AG3 d g fs es S K|none=>none
 |.Dm d x ms args=>match S.one x,S.rds args with
  |some (.fn n caps),some es=>match R[n]? with|some g=>if g.ps.map PK.md=ms then AG3 d g [] (es++caps.map fun l=>⟨.one,[l.leaf]⟩) S K else none|none=>none
  |_,_=>none
def YOp.iT:YOp R->Option Nat|.mv d _=>some d|.as d _=>some d|.pick d _ _ _=>some d|.alloc d _=>some d|.box d _=>some d|.build d _ _=>some d|.B9 d _ _ _=>some d|.ld d _ _=>some d|.chk d _=>some d|.bin d _ _ _ _=>some d|.un d _ _=>some d|.cvI d _ _=>some d|.MF d _=>some d|.Np d _=>some d|.MK d _ _=>some d|.LM d _ _=>some d|.sub d _ _ _ _=>some d|.UJ d _ _ _=>some d|.fa d _ _=>some d|.fld d _ _ _=>some d|.ia d _ _ _=>some d|.ix d _ _=>some d|.ext d _ _=>some d|.call d _ _ _ _=>some d|.Dm d _ _ _=>some d|.len d _=>some d|.lens d _=>some d|.app d _ _ _ _=>some d|.Qd d _ _ _=>some d|.cpy d _ _ _=>some d|.mm d _ _ _=>some d|.mmk d=>some d|.Si d _ _=>some d|.Sj d _=>some d|.RY _ _ _=>none|.bad d=>d|.st _ _ _=>none|.drop _=>none|.T3 _=>none
def YOp.simple:YOp R->Bool|.mv _ _=>true|.as _ _=>true|.pick _ _ _ _=>true|.ld _ _ _=>true|.chk _ _=>true|.bin _ _ _ _ _=>true|.un _ _ _=>true|.cvI _ _ _=>true|.MF _ _=>true|.Np _ _=>true|.LM _ _ _=>true|.sub _ _ _ _ _=>true|.UJ _ _ _ _=>true|.fa _ _ _=>true|.fld _ _ _ _=>true|.ia _ _ _ _=>true|.ix _ _ _=>true|.len _ _=>true|.lens _ _=>true|.mm _ _ _ _=>true|.mmk _=>true|.Si _ _ _=>true|.Sj _ _=>true|.call _ g _ _ _=>!(g.ps.any PK.writes)|_=>false
def LP(o:YOp R)(S:St)(K:St->Option ρ):Option ρ:=match o.iT with|some d=>G2 S d .one [.und] K|none=>K S
def reE(s:Nat)(e:Ent):List (Nat×Ent)->List (Nat×Ent)
 | []=>[]|(k,x)::r=>match Nat.beq k s with|true=>(k,e)::r|false=>(k,x)::reE s e r
def St.lit(S:St)(s:Nat)(b:Bool):St:=⟨reE s ⟨.one,[.t (.bool b)],S.nv⟩ S.tm,S.bx,S.pin,S.nv+1⟩
def kC(w:Bool)(o:YOp R)(S:St)(f:Option ρ)(K:St->Option ρ):Option ρ:=match w with|true=>f|false=>LP o S K
def evg(g:Option (Nat×Bool))(o:YOp R)(S:St)(K:St->Option ρ):Option ρ:=
 match g with
 |none=>ev o S K|some (s,w)=>match get S.tm s with
  |some ⟨.one,[.t (.bool b)],_⟩=>
   br b (kC w o (S.lit s true) (ev o (S.lit s true) K) K) (kC (!w) o (S.lit s false) (ev o (S.lit s false) K) K)
  |some ⟨.one,[.und],_⟩=>LP o S K|_=>none
def evs:List (Option (Nat×Bool)×YOp R)->St->(St->Option ρ)->Option ρ
 | [],S,K=>K S|(g,o)::r,S,K=>match o.simple with|true=>evg g o S fun S'=>evs r S' K|false=>evg g o S fun S'=>S'.FP fun S'=>evs r S' K
def YOp.wr:YOp R->Option YO|.app _ _ _ x _=>some x|.Qd _ _ x _=>some x|.cpy _ _ x _=>some x|.RY x _ _=>some x|_=>none
def JJ(l:AR):List PK->List En->Bool|k::ks,e::es=>(!PK.writes k||e.cs.all fun l'=>!P8 l' l)&&JJ l ks es|_,_=>true
def St.My(S:St):AR->Bool
 |.bp id _=>(get S.bx id).isSome|.ep _ _ _=>true|.vp _ cs=>!cs.isEmpty|.al r _=>match S.at r with|some (.ow x)=>!YM x|_=>false
 |.vw (.own _ _) _ _=>true|.t .nil=>true|_=>false
def TE(o:YOp R)(S:St)(l:AR):Bool:=
 S.My l&&match o with
  |.st _ x _=>match S.one x with|some (.bp id _)=>!mem id (names l)|some (.ep r _ _)=>!isR l.Bz r|_=>false
  |.call _ g _ _ args=>match S.rds args with|some es=>JJ l g.ps es|none=>false
  |.Dm _ x ms args=>match S.one x,S.rds args with
   |some (.fn n caps),some es=>match R[n]? with|some g=>if g.ps.map PK.md=ms then JJ l g.ps (es++caps.map fun l=>⟨.one,[l.leaf]⟩) else false|none=>false
   |_,_=>false
  |o=>match o.wr with
   |some y=>match S.one y with
    |some lt=>l.Bz.isNone||!(match l.Bz with|some r=>isR lt.Bz r|none=>lt.Bz.isNone)
    |none=>false
   |none=>true
def I7(o:YOp R)(S:St):List Nat->Bool
 | []=>true|s::ss=>(match S.one (.tmp s) with|some l=>TE o S l|none=>false)&&I7 o S ss
end
abbrev ifB{γ:Type}(b:Bool)(x:Option γ):Option γ:=match b with|true=>x|false=>none
theorem AZN{γ:Type}{b:Bool}{x:Option γ}:ifB b x=if b=true then x else none:=by cases b<;>rfl
def Zb{α:Type}(k:Nat):List (Nat×α)->Bool
 | []=>false|(j,_)::r=>match Nat.beq j k with|true=>true|false=>Zb k r
def jo{α:Type}:List (Nat×α)->Bool| []=>true|(k,_)::r=>(!Zb k r)&&jo r
def AK0:List (Option Nat)->List (Option Nat)->Bool| [],[]=>true|none::r,none::r'=>AK0 r r'|some a::r,some b::r'=>Nat.beq a b&&AK0 r r'|_,_=>false
def AZI:Sh->Sh->Bool|.one,.one=>true|.agg,.agg=>true|.tup a,.tup b=>AK0 a b|.ptr a,.ptr b=>Nat.beq a b|.vw a,.vw b=>Nat.beq a b|_,_=>false
def AJg:Option (Nat×Nat)->Option (Nat×Nat)->Bool|none,none=>true|some (a,b),some (a',b')=>Nat.beq a a'&&Nat.beq b b'|_,_=>false
def AJf:Src->Src->Bool|.old a,.old b=>Nat.beq a b|.own r s,.own r' s'=>CC.is r r'&&AJg s s'|_,_=>false
def AWi:List (Nat×Nat)->List (Nat×Nat)->Bool| [],[]=>true|(a,b)::r,(a',b')::r'=>Nat.beq a a'&&Nat.beq b b'&&AWi r r'|_,_=>false
section
variable{ρ:Type}
def agU:U->U->Option ρ->Option ρ|.top,.top,X=>X|.int k n,.int k' n',X=>if k'=k then eqv n n' X else none|.u8 a,.u8 b,X=>eqv a b X|.bool a,.bool b,X=>eqv a b X|.str a,.str b,X=>eqv a b X|.nil,.nil,X=>X|.np,.np,X=>X|.mp a,.mp b,X=>eqv a b X|.sl c xs,.sl c' ys,X=>if h:c'=c then eqv xs (h▸ys) X else none|_,_,_=>none
def AYk:List U->List U->Option ρ->Option ρ| [],[],X=>X|a::r,b::r',X=>agU a b (AYk r r' X)|_,_,_=>none
def AaF:AR->AR->Option ρ->Option ρ|.t x,.t y,X=>agU x y X|.und,.und,X=>X|.ow x,.ow y,X=>agU x y X|.owh c xs hs,.owh c' ys hs',X=>ifB (AWi hs hs') (if h:c'=c then eqv xs (h▸ys) X else none)|.al r s,.al r' s',X=>ifB (CC.is r r'&&AJg s s') X|.ep r i j,.ep r' i' j',X=>ifB (CC.is r r'&&Nat.beq j j') (eqv i i' X)|.vw s c xs,.vw s' c' ys,X=>ifB (AJf s s') (if h:c'=c then eqv xs (h▸ys) X else none)|.vp s cs,.vp s' cs',X=>ifB (AJf s s') (AYk cs cs' X)|.bp a o,.bp a' o',X=>ifB (Nat.beq a a'&&Nat.beq o o') X|_,_,_=>none
def AVx:List AR->List AR->Option ρ->Option ρ| [],[],X=>X|a::r,b::r',X=>AaF a b (AVx r r' X)|_,_,_=>none
def agE(v:Nat):List (Nat×Ent)->List (Nat×Ent)->Option ρ->Option ρ
 | [],[],X=>X|(k,e)::r,(k',e')::r',X=>match Nat.beq k k' with
  |true=>match (Nat.blt e.ver v&&Nat.blt e'.ver v) with|true=>agE v r r' X|false=>ifB (AZI e.sh e'.sh) (AVx e.cs e'.cs (agE v r r' X))
  |false=>none
 |_,_,_=>none
def agB(v:Nat):List (Nat×Bx)->List (Nat×Bx)->Option ρ->Option ρ
 | [],[],X=>X|(k,e)::r,(k',e')::r',X=>match Nat.beq k k' with
  |true=>match (Nat.blt e.ver v&&Nat.blt e'.ver v) with|true=>agB v r r' X|false=>AVx e.cs e'.cs (agB v r r' X)
  |false=>none
 |_,_,_=>none
def agS(v:Nat)(A B:St)(X:Option ρ):Option ρ:=ifB (jo A.tm&&jo B.tm&&jo A.bx&&jo B.bx) (agE v A.tm B.tm (agB v A.bx B.bx X))
end
inductive Bt where
 |nil|op(i:Nat)(g:Option (Nat×Bool))(sf:List Nat)(o:YOp R)(rest:Bt)|dr(ds:List Nat)(rest:Bt)|nl(ns:List (CC×C))(rest:Bt)|both(n:Nat)(a b:Bt)
section
variable {R} {ρ:Type}
def evr:Bt R->St->(St->Option ρ)->Option ρ
 |.nil,S,K=>K S|.op _ g sf p rest,S,K=>match g with
  |none=>ifB (I7 p S sf) (ev p S fun S'=>S'.FP fun S'=>evr rest S' K)|some (s,w)=>match get S.tm s with
   |some ⟨.one,[.t (.bool b)],_⟩=>
    br b (kC w p (S.lit s true) (ifB (I7 p (S.lit s true) sf) (ev p (S.lit s true) fun S'=>S'.FP fun S'=>evr rest S' K)) fun S'=>S'.FP fun S'=>evr rest S' K)
     (kC (!w) p (S.lit s false) (ifB (I7 p (S.lit s false) sf) (ev p (S.lit s false) fun S'=>S'.FP fun S'=>evr rest S' K)) fun S'=>S'.FP fun S'=>evr rest S' K)
   |some ⟨.one,[.und],_⟩=>LP p S fun S'=>S'.FP fun S'=>evr rest S' K|_=>none
 |.dr ds rest,S,K=>evr rest (S.Hj ds) K|.nl ns rest,S,K=>evr rest (S.Py ns) K|.both n a b,S,K=>match n with|0=>evr a S fun A=>evr b S fun B=>agS S.nv A B (K A)|_+1=>evr a S fun A=>alt (fun X=>evr b S fun B=>agS S.nv A B X) (K A)
end
inductive AL where
 |val(c:C)(s:Option Src)|num(k:IntKind)|al(r:CC)
def AL.D:AL->Type|.val c _=>c.D|.num _=>Int|.al _=>Unit
def AL.w:AL->Nat|.val c _=>c.size|.num _=>1|.al _=>1
def TA:List AL->Type| []=>Unit| [a]=>a.D|a::a'::as=>a.D×TA (a'::as)
def ATL(s:Option Src)(x:U):AR:=match s with|none=>I6 x|some q=>J0 q x
def AL.leaf:(a:AL)->a.D->List AR|.val c s,x=>(cells c x).map (ATL s)|.num k,z=>[.t (.int k z)]|.al r,_=>[.al r none]
def ATM(s:Option Src):AR->Option U
 |.t (.sl _ _)=>none|.t .nil=>none|.t (.mp _)=>none|.t x=>some x|.ow (.sl c xs)=>match s with|none=>some (.sl c xs)|some _=>none
 |.ow (.mp ks)=>match s with|none=>some (.mp ks)|some _=>none
 |.vw q' c xs=>match s with|none=>none|some q=>if q'=q then some (.sl c xs) else none
 |_=>none
def tI(s:Option Src):List AR->Option (List U)
 | []=>some []|l::ls=>match ATM s l,tI s ls with|some x,some xs=>some (x::xs)|_,_=>none
def AL.un:(a:AL)->List AR->Option a.D
 |.val c s,ls=>match tI s ls with|some us=>ofC c us|none=>none
 |.num k,ls=>match ls with | [.t (.int k' z)]=>if k'=k then some z else none|_=>none
 |.al r,ls=>match ls with | [.al r' none]=>if r'=r then some () else none|_=>none
def RV:(as:List AL)->TA as->List AR| [],_=>[]| [a],x=>a.leaf x|a::a'::as,x=>a.leaf x.1++RV (a'::as) x.2
def AXk:(as:List AL)->List AR->Option (TA as)
 | [],ls=>match ls with | []=>some ()|_=>none
 | [a],ls=>a.un ls|a::a'::as,ls=>match a.un (ls.take a.w),AXk (a'::as) (ls.drop a.w) with|some x,some y=>some (x,y)|_,_=>none
abbrev Cut:=List (Bool×Nat×Sh×List AL)
def wid:List AL->Nat| []=>0|a::as=>a.w+wid as
def Cut.as(c:Cut):List AL:=(c.map fun v=>v.2.2.2).flatten
def seg:Cut->List AR->List (Bool×Nat×Sh×List AR)| [],_=>[]|(b,d,sh,as)::vs,ls=>(b,d,sh,ls.take (wid as))::seg vs (ls.drop (wid as))
def look(b:Bool)(k:Nat):List (Bool×Nat×Sh×List AR)->Option (Sh×List AR)
 | []=>none|(b',d,sh,ls)::r=>match (b'==b&&Nat.beq d k) with|true=>some (sh,ls)|false=>look b k r
def kS(q:List (Bool×Nat×Sh×List AR))(a:List (Nat×Ent))(v:Nat):List (Nat×Ent)->List (Nat×Ent)
 | []=>[]|(k,e)::r=>(k,match look false k q with|some (sh,ls)=>⟨sh,ls,v⟩|none=>match get a k with|some e'=>e'|none=>e)::kS q a v r
def kR(q:List (Bool×Nat×Sh×List AR))(a:List (Nat×Bx))(v:Nat):List (Nat×Bx)->List (Nat×Bx)
 | []=>[]|(k,e)::r=>(k,match look true k q with|some (_,ls)=>⟨ls,v⟩|none=>match get a k with|some e'=>e'|none=>e)::kR q a v r
def Cut.st(c:Cut)(S S':St)(x:TA c.as):St:=⟨kS (seg c (RV c.as x)) S.tm S.nv S'.tm,kR (seg c (RV c.as x)) S.bx S.nv S'.bx,S.pin,S.nv+1⟩
def NK(b:Bool)(k:Nat):Cut->Bool
 | []=>false|(b',d,_)::r=>match (b'==b&&Nat.beq d k) with|true=>true|false=>NK b k r
def AKQ(c:Cut)(a:List (Nat×Ent)):List (Nat×Ent)->Bool
 | []=>true|(k,e)::r=>(match NK false k c with|true=>true|false=>match get a k with|some e'=>Nat.beq e.ver e'.ver|none=>false)&&(!Zb k r)&&AKQ c a r
def AKP(c:Cut)(a:List (Nat×Bx)):List (Nat×Bx)->Bool
 | []=>true|(k,e)::r=>(match NK true k c with|true=>true|false=>match get a k with|some e'=>Nat.beq e.ver e'.ver|none=>false)&&(!Zb k r)&&AKP c a r
def ND{α:Type}:List (Nat×α)->List (Nat×α)->Bool| [],[]=>true|(k,_)::r,(k',_)::r'=>Nat.beq k k'&&ND r r'|_,_=>false
def Ph(S:St):Cut->Option (List AR)
 | []=>some []|(false,d,sh,as)::vs=>match get S.tm d,Ph S vs with|some e,some ls=>if ANK e.sh sh=true/\e.cs.length=wid as then some (e.cs++ls) else none|_,_=>none
 |(true,d,_,as)::vs=>match get S.bx d,Ph S vs with|some e,some ls=>if e.cs.length=wid as then some (e.cs++ls) else none|_,_=>none
def wfE(v:Nat):List (Nat×Ent)->Bool| []=>true|(_,e)::r=>Nat.blt e.ver v&&wfE v r
def wfB(v:Nat):List (Nat×Bx)->Bool| []=>true|(_,e)::r=>Nat.blt e.ver v&&wfB v r
def Cut.fit(c:Cut)(S S':St):Option (TA c.as):=
 if wfE S.nv S.tm=true/\wfB S.nv S.bx=true/\AKQ c S.tm S'.tm=true/\AKP c S.bx S'.bx=true
 then match Ph S' c with|some ls=>AXk c.as ls|none=>none
 else none
inductive GI where
 |skip|region(ops:List (Option (Nat×Bool)×YOp R))(E1:List Nat)|Ta(r:Bt R)(E1:List Nat)|seq(a b:GI)|join(c:Cut)(a b:GI)|cond(c:Nat)(kt ke:List Nat)(t e:GI)|block(id:Nat)(b:GI)|loop(c:Cut)(b:GI)|exit(id:Nat)|ret|scope(b:GI)|or(a b:GI)|dead|AXH(c:Cut)(b:GI)
end
section
variable{R:List GF}{ρ:Type}
def G1:GI R->St->(Ex->St->Option ρ)->Option ρ
 |.skip,S,K=>K .n S|.region ops E1,S,K=>evs ops S fun S'=>(S'.qO E1).FP fun S'=>K .n S'|.Ta r E1,S,K=>evr r S fun S'=>(S'.qO E1).FP fun S'=>K .n S'|.seq a b,S,K=>G1 a S fun e S'=>match e with|Ex.n=>G1 b S' K|.x i=>K (.x i) S'|.r=>K .r S'
 |.join c a b,S,K=>G1 a S fun e S'=>match e with
  |.n=>match c.fit S S' with|some x=>jn (fun x=>(c.st S S' x).FP fun S=>G1 b S K) x|none=>none
  |.x i=>K (.x i) S'|.r=>K .r S'
 |.cond c kt ke t e,S,K=>match S.sc (.tmp c) with|some (.bool b)=>br b ((S.qO kt).FP fun S=>G1 t S K) ((S.qO ke).FP fun S=>G1 e S K)|_=>none
 |.block id b,S,K=>G1 b S fun e S'=>match e with|.n=>K .n S'|.x i=>if i=id then K .n S' else K (.x i) S'|.r=>K .r S'
 |.loop c b,S,K=>match c.fit S S with
  |some x=>A3 (fun L x=>(c.st S S x).FP fun S1=>G1 b S1 fun e S'=>match e with
   |.n=>if ND S.tm S'.tm=true/\ND S.bx S'.bx=true then (match c.fit S S' with|some y=>L y|none=>none) else none
   |.x i=>K (.x i) S'|.r=>K .r S') big x
  |none=>none
 |.exit id,S,K=>K (.x id) S|.ret,S,K=>K .r S|.scope b,S,K=>G1 b S K|.or a b,S,K=>orX (G1 a S K) (G1 b S K)|.dead,_,_=>none|.AXH c b,S,K=>G1 b S fun e S0=>match e with
  |.n=>match c.fit S0 S0 with
   |some x=>A3 (fun L x=>(c.st S0 S0 x).FP fun S1=>G1 b S1 fun e S'=>match e with
    |.n=>if ND S0.tm S'.tm=true/\ND S0.bx S'.bx=true then (match c.fit S0 S' with|some y=>L y|none=>none) else none
    |.x i=>K (.x i) S'|.r=>K .r S') big x
   |none=>none
  |.x i=>K (.x i) S0|.r=>K .r S0
def No(i:Nat):(l:List (Bool×C))->po l->List Cap
 | [],_=>[]|(false,c)::r,x=>(match cells c x.1 with | [.sl c' xs]=>.vw i c' xs | [u]=>.t u|_=>.t .top)::No i r x.2
 |(true,c)::r,x=>.vp i (cells c x.1)::No i r x.2
def initK:Nat->List Nat->(ks:List PK)->A ks->St->St
 |_,_,[],_,S=>S|i,fs,.v c::ks,a,S=>initK (i+1) fs ks a.2 (S.JM i (shC c) ((cells c a.1).map (D4 i)))|i,fs,.p c::ks,a,S=>initK (i+1) fs ks a.2 (S.JM i .one [.vp (.old i) (cells c a.1)])|i,fs,.b c::ks,a,S=>initK (i+1) fs ks a.2 (let S1:=(S.JM i .one [.bp i 0]).NN i ((cells c a.1).map (D4 i));⟨S1.tm,S1.bx,i::S1.pin,S1.nv⟩)
 |i,fs,.o c::ks,a,S=>initK (i+1) fs ks a.2 (S.JM i (shC c) ((cells c a.1).map I6))|i,fs,.m c::ks,a,S=>initK (i+1) fs ks a.2 (let S1:=S.JM i (shC c) ((cells c a.1).map I6);⟨S1.tm,S1.bx,i::S1.pin,S1.nv⟩)
 |i,fs,.f _ l::ks,a,S=>initK (i+1) fs.tail ks a.2 (S.JM i .one [.fn (fs.headD 0) (No i l a.1)])
def LO{ρ:Type}:List HM->St->(List (Option Nat)->List AR->Option ρ)->Option ρ
 | [],_,K=>K [] []|.tmp t::rs,S,K=>match S.rd (.tmp t) with
  |some e=>if Fk e.sh e.cs.length=true then LO rs S fun ns ls=>K ((match e.sh with|.one=>none|_=>some e.cs.length)::ns) (e.cs++ls) else none
  |none=>none
 |.cell t n::rs,S,K=>match S.one (.tmp t) with|some (.bp id o)=>S.load (DX n) (.bp id o) fun ls'=>LO rs S fun ns ls=>K (n::ns) (ls'++ls)|_=>none
 |.bx _::_,_,_=>none|.vw _ _::_,_,_=>none|.un _ _::_,_,_=>none
def M6:List AR->Bool
 | []=>true|l::ls=>(match l with|.t x=>!QQ x|.vw (.old _) _ _=>true|_=>false)&&M6 ls
def Z6(rk:RK)(rs:List HM)(S:St)(K:St->List U->Option ρ):Option ρ:=
 match rk,rs with
 |.ptr k _,[.bx t]=>match S.one (.tmp t) with
  |some (.bp id 0)=>match get S.bx id with
   |some ls=>if mem id S.pin=true then none else if DL ls.cs=k then match FH k ls.cs with|some us=>K S us|none=>none else none
   |none=>none
  |_=>none
 |.vw k _,[.vw t k']=>if k'=k then match S.one (.tmp t) with
  |some (.vw (.old k'') c xs)=>if k''=k then K S [.sl c xs] else none|some (.al r sub)=>match S.at r with|some (.ow x)=>K (S.out r) [AGP sub x]|_=>none
  |_=>none
  else none
 |.ret (.un n::c::cs),.un t n'::r::rs=>if n'=n then match S.one (.tmp t) with
  |some (.bp id o)=>S.load n (.bp id o) fun ls'=>if M6 ls'=true then LO (r::rs) S fun ns ls=>if ns=(c::cs).map wC then match DW S ls with
   |some (S',us)=>K S' (List.replicate n .un++us)|none=>none
   else none
   else none
  |_=>none
  else none
 |.ret cs,rs=>LO rs S fun ns ls=>if ns=cs.map wC then match DW S ls with
  |some (S',us)=>K S' us|none=>none
  else none
 |_,_=>none
def owT:AR->Option U|.ow x=>some x|.t x=>if QQ x=true then none else some x|_=>none
def Z5:List AR->Option (List U)
 | []=>some []|l::ls=>match owT l,Z5 ls with|some x,some xs=>some (x::xs)|_,_=>none
def Ep:Nat->List PK->St->Option (List U)
 |_,[],_=>some []|i,.b c::ks,S=>match get S.bx i,Ep (i+1) ks S with
  |some ls,some os=>if mem i S.pin=true/\ls.cs.length=c.size then match FH i ls.cs with|some us=>some (us++os)|none=>none else none
  |_,_=>none
 |i,.m c::ks,S=>match get S.tm i,Ep (i+1) ks S with
  |some e,some os=>if mem i S.pin=true/\Fk e.sh e.cs.length=true/\e.cs.length=c.size then match Z5 e.cs with|some us=>some (us++os)|none=>none else none
  |_,_=>none
 |i,_::ks,S=>Ep (i+1) ks S
def TG:List C->Nat| []=>0|c::cs=>c.size+TG cs
def fin(ks:List PK)(rk:RK)(rs:List HM)(S:St):Option (Tu (rk.cs++Kn ks)):=
 Z6 rk rs S fun S' us=>match Ep 0 ks S' with|some os=>if us.length=TG rk.cs then ofT (rk.cs++Kn ks) (us++os) else none|none=>none
end
structure YF where
 R:List GF
 ps:List PK
 fs:List Nat
 rk:RK
 rs:List HM
 body:GI R
def YF.run(f:YF)(a:A f.ps):Option (Tu (f.rk.cs++Kn f.ps)):=
 (initK 0 f.fs f.ps a ⟨[],[],[],0⟩).FP fun S=>G1 f.body S fun e S=>match e with|.x _=>none|.n=>fin f.ps f.rk f.rs S|.r=>fin f.ps f.rk f.rs S
end Y
end Lv
namespace Lv
open Go (IntKind BinOp UnOp)
theorem Ez:∀(c:C) (x:c.D),enc c x=(cells c x).map U.fg
 |.i,x=>rfl|.u,x=>rfl|.b,x=>rfl|.s,x=>rfl|.m,x=>rfl|.ki _,x=>rfl|.z,x=>rfl|.l c,xs=>rfl|.un n,x=>by simp only[enc,cells,List.map_replicate];rfl|.st n,x=>by
  match n,x with
  |0,x=>rfl|1,x=>rfl|2,x=>rfl|3,x=>rfl|4,x=>rfl|5,x=>rfl|6,x=>rfl|7,x=>rfl|8,x=>rfl|9,x=>rfl|10,x=>rfl|11,x=>rfl|12,x=>rfl|13,x=>rfl|14,x=>rfl|15,x=>rfl|16,x=>rfl|17,x=>rfl|_+18,x=>rfl
theorem AVf{u:U}{n:Int}(h:toI u=some n):u=.int .i64 n:=by
 cases u<;>simp[toI]at h
 grind
theorem AZ7{u:U}{n:UInt8}(h:toU u=some n):u=.u8 n:=by cases u<;>simp[toU]at h;rw[h]
theorem AKX{u:U}{n:Bool}(h:AXg u=some n):u=.bool n:=by cases u<;>simp[AXg]at h;rw[h]
theorem AVh{u:U}{n:List UInt8}(h:toS u=some n):u=.str n:=by cases u<;>simp[toS]at h;rw[h]
theorem AZ6{k:IntKind}{u:U}{n:Int}(h:toN k u=some n):u=.int k n:=by
 cases u<;>simp[toN]at h
 grind
theorem AZ8{u:U}{n:Unit}(h:toZ u=some n):u=.nil:=by cases u<;>simp[toZ]at h;rfl
theorem AZ5{u:U}{n:List (Int×Int)}(h:toM u=some n):u=.mp n:=by cases u<;>simp[toM]at h;rw[h]
theorem AVg{c:C}{u:U}{n:List c.D}(h:toL c u=some n):u=.sl c n:=by
 cases u<;>simp[toL]at h
 grind
theorem bind_eq{α β:Type}{o:Option α}{f:α->Option β}{r:β}(h:o.bind f=some r):∃x,o=some x/\f x=some r:=ob h
theorem De{α:Type}{us:List U}{K:Int->List U->Option α}{r:α}(h:gI us K=some r):∃a c,us=.int .i64 a::c/\K a c=some r:=by
 cases us with
 |nil=>cases h
 |cons u us=>obtain⟨a,e,h⟩:=bind_eq h;obtain rfl:=AVf e;exact⟨a,us,rfl,h⟩
theorem ZQ{α:Type}{us:List U}{K:List UInt8->List U->Option α}{r:α}(h:gS us K=some r):∃a c,us=.str a::c/\K a c=some r:=by
 cases us with
 |nil=>cases h
 |cons u us=>obtain⟨a,e,h⟩:=bind_eq h;obtain rfl:=AVh e;exact⟨a,us,rfl,h⟩
theorem AZL{α:Type}{us:List U}{K:Bool->List U->Option α}{r:α}(h:gBo us K=some r):∃a c,us=.bool a::c/\K a c=some r:=by
 cases us with
 |nil=>cases h
 |cons u us=>obtain⟨a,e,h⟩:=bind_eq h;obtain rfl:=AKX e;exact⟨a,us,rfl,h⟩
theorem I2{α:Type}{c:C}{us:List U}{K:List c.D->List U->Option α}{r:α}(h:gL c us K=some r):∃a e,us=.sl c a::e/\K a e=some r:=by
 cases us with
 |nil=>cases h
 |cons u us=>obtain⟨a,j,g⟩:=bind_eq h;obtain rfl:=AVg j;exact⟨a,us,rfl,g⟩
theorem KQ{α:Type}{us:List U}{a r:α}(h:gE us a=some r):us=[]/\a=r:=by
 cases us with
 |nil=>exact⟨rfl,Option.some.inj h⟩|cons u us=>cases h
theorem ATd{us:List U}{x:Bo}(h:ATc us=some x):AXu x=us:=by
 grind[ATc,De,KQ]
theorem AFa{us:List U}{x:Ae}(h:tZ us=some x):AGw x=us:=by
 unfold tZ at h;obtain⟨a0,g,rfl,a⟩:=I2 h;obtain⟨c,j,rfl,e⟩:=De a
 grind[De,KQ]
theorem AFY{us:List U}{x:AM}(h:tX us=some x):AGu x=us:=by
 unfold tX at h;obtain⟨a0,q,rfl,a⟩:=De h;obtain⟨e,y,rfl,c⟩:=De a;obtain⟨g,B,rfl,j⟩:=De c
 grind[De,KQ]
theorem AB0{us:List U}{x:BJ}(h:jt us=some x):vq x=us:=by
 grind[jt,De,KQ]
theorem AFV{us:List U}{x:Ad}(h:tU us=some x):AGr x=us:=by
 grind[tU,De,KQ]
theorem ATb{us:List U}{x:A7}(h:ATa us=some x):AXt x=us:=by
 grind[ATa,De,KQ]
theorem AFc{us:List U}{x:Av}(h:te us=some x):AGy x=us:=by
 grind[te,I2,KQ]
theorem AFU{us:List U}{x:AX}(h:tT us=some x):AGq x=us:=by
 unfold tT at h
 grind[De,I2,KQ]
theorem AFX{us:List U}{x:AF}(h:tW us=some x):AGt x=us:=by
 unfold tW at h;obtain⟨a0,L,rfl,a⟩:=I2 h;obtain⟨B,O,rfl,c⟩:=De a;obtain⟨E,Q,rfl,e⟩:=De c;obtain⟨a3,S,rfl,g⟩:=De e;obtain⟨a4,X,rfl,j⟩:=De g;obtain⟨G,Y,rfl,q⟩:=De j;obtain⟨H,Z,rfl,y⟩:=De q;obtain⟨I,u7,rfl,J⟩:=De y
 grind[De,I2,KQ]
theorem ALb{us:List U}{x:B3}(h:AFT us=some x):AOE x=us:=by
 grind[AFT,ZQ,De,KQ]
theorem AFb{us:List U}{x:Br}(h:ta us=some x):AGx x=us:=by
 grind[ta,ZQ,De,KQ]
theorem ABz{us:List U}{x:BD}(h:jr us=some x):vn x=us:=by
 unfold jr at h;obtain⟨a0,u0,rfl,I⟩:=I2 h;obtain⟨a1,u1,rfl,J⟩:=De I;obtain⟨a2,u2,rfl,O⟩:=De J;obtain⟨a3,u3,rfl,Q⟩:=De O;obtain⟨a4,u4,rfl,S⟩:=De Q;obtain⟨a5,u5,rfl,X⟩:=De S;obtain⟨a6,u6,rfl,Y⟩:=De X;obtain⟨a7,u7,rfl,Z⟩:=De Y;obtain⟨a8,u8,rfl,h8⟩:=De Z;obtain⟨a9,u9,rfl,h9⟩:=De h8;obtain⟨q,u10,rfl,a⟩:=De h9;obtain⟨y,u11,rfl,c⟩:=I2 a;obtain⟨B,u12,rfl,e⟩:=I2 c;obtain⟨E,u13,rfl,g⟩:=I2 e;obtain⟨G,u14,rfl,j⟩:=I2 g;obtain⟨H,u15,rfl,L⟩:=ZQ j
 grind[De,ZQ,I2,KQ]
theorem AFZ{us:List U}{x:Bf}(h:tY us=some x):AGv x=us:=by
 grind[tY,De,I2,KQ]
theorem AFd{us:List U}{x:CB}(h:tf us=some x):AGz x=us:=by
 unfold tf at h;obtain⟨a0,u0,rfl,Z⟩:=I2 h;obtain⟨a1,u1,rfl,h1⟩:=De Z;obtain⟨a2,u2,rfl,h2⟩:=De h1;obtain⟨a3,u3,rfl,h3⟩:=De h2;obtain⟨a4,u4,rfl,h4⟩:=De h3;obtain⟨a5,u5,rfl,h5⟩:=De h4;obtain⟨a6,u6,rfl,h6⟩:=De h5;obtain⟨a7,u7,rfl,h7⟩:=De h6;obtain⟨a8,u8,rfl,h8⟩:=De h7;obtain⟨a9,u9,rfl,h9⟩:=De h8;obtain⟨G,u10,rfl,a⟩:=De h9;obtain⟨H,u11,rfl,c⟩:=I2 a;obtain⟨I,u12,rfl,e⟩:=I2 c;obtain⟨J,u13,rfl,g⟩:=I2 e;obtain⟨L,u14,rfl,j⟩:=I2 g;obtain⟨O,u15,rfl,q⟩:=ZQ j;obtain⟨Q,u16,rfl,y⟩:=De q;obtain⟨S,u17,rfl,B⟩:=ZQ y;obtain⟨X,u18,rfl,E⟩:=De B;obtain⟨Y,u19,rfl,h19⟩:=ZQ E
 grind[De,I2,KQ]
theorem ATZ{us:List U}{x:Iu}(h:ATY us=some x):AXs x=us:=by
 unfold ATY at h;obtain⟨a0,g,rfl,a⟩:=De h;obtain⟨c,j,rfl,e⟩:=De a
 grind[De,I2,KQ]
theorem AFW{us:List U}{x:Bu}(h:tV us=some x):AGs x=us:=by
 grind[tV,De,ZQ,KQ]
theorem AFe{us:List U}{x:DM}(h:th us=some x):AG0 x=us:=by
 grind[th,I2,De,AZL,KQ]
theorem AFf{us:List U}{x:PN}(h:tj us=some x):AG1 x=us:=by
 grind[tj,I2,De,KQ]
theorem ALc:∀{n:Nat} {us:List U} {x:tD n},ofS n us=some x->ADL n x=us
 |0,us,x,h=>ATd h|1,us,x,h=>AFa h|2,us,x,h=>AFY h|3,us,x,h=>AB0 h|4,us,x,h=>AFV h|5,us,x,h=>ATb h|6,us,x,h=>AFc h|7,us,x,h=>AFU h|8,us,x,h=>AFX h|9,us,x,h=>ALb h|10,us,x,h=>AFb h|11,us,x,h=>ABz h|12,us,x,h=>AFZ h|13,us,x,h=>AFd h|14,us,x,h=>ATZ h|15,us,x,h=>AFW h|16,us,x,h=>AFe h|17,us,x,h=>AFf h|_+18,us,x,h=>by cases h
theorem Rc{α:Type}{us:List U}{f:U->Option α}{r:α}(h:of1 us f=some r):∃u,us=[u]/\f u=some r:=by
 match us,h with
 | [u],h=>exact⟨u,rfl,h⟩
theorem ACz:∀{n:Nat} {us:List U} {x:Unit},MC n us=some x->us=List.replicate n .un|0,[],_,_=>rfl|n+1,.un::us,x,h=>by rw[List.replicate_succ,<-ACz (n:=n) (x:=x) (by simpa only[MC] using h)]|0,_::_,_,h=>by simp[MC]at h|n+1,[],_,h=>by simp[MC]at h|n+1,.int _ _::_,_,h=>by simp[MC]at h|n+1,.top::_,_,h=>by simp[MC]at h|n+1,.u8 _::_,_,h=>by simp[MC]at h|n+1,.bool _::_,_,h=>by simp[MC]at h|n+1,.str _::_,_,h=>by simp[MC]at h|n+1,.nil::_,_,h=>by simp[MC]at h|n+1,.np::_,_,h=>by simp[MC]at h|n+1,.sl _ _::_,_,h=>by simp[MC]at h|n+1,.mp _::_,_,h=>by simp[MC]at h
theorem Yb:∀{c:C} {us:List U} {x:c.D},ofC c us=some x->cells c x=us
 |.i,us,x,h=>by obtain⟨u,rfl,h⟩:=Rc h;obtain rfl:=AVf h;rfl
 |.u,us,x,h=>by obtain⟨u,rfl,h⟩:=Rc h;obtain rfl:=AZ7 h;rfl
 |.b,us,x,h=>by obtain⟨u,rfl,h⟩:=Rc h;obtain rfl:=AKX h;rfl
 |.s,us,x,h=>by obtain⟨u,rfl,h⟩:=Rc h;obtain rfl:=AVh h;rfl
 |.ki k,us,x,h=>by obtain⟨u,rfl,h⟩:=Rc h;obtain rfl:=AZ6 h;rfl
 |.m,us,x,h=>by obtain⟨u,rfl,h⟩:=Rc h;obtain rfl:=AZ5 h;rfl
 |.z,us,x,h=>by obtain⟨u,rfl,h⟩:=Rc h;obtain rfl:=AZ8 h;rfl
 |.l c,us,x,h=>by obtain⟨u,rfl,h⟩:=Rc h;obtain rfl:=AVg h;rfl
 |.st n,us,x,h=>ALc h|.un n,us,x,h=>(ACz (show MC n us=some x from h)).symm
theorem H0{c:C}{us:List U}{x:c.D}(h:ofC c us=some x):enc c x=us.map U.fg:=by rw[Ez,Yb h]
theorem XJ:∀(c:C) (x:c.D),(cells c x).length=c.size
 |.i,x=>rfl|.u,x=>rfl|.b,x=>rfl|.s,x=>rfl|.m,x=>rfl|.ki _,x=>rfl|.z,x=>rfl|.l c,xs=>rfl|.un n,x=>List.length_replicate|.st n,x=>by
  match n,x with
  |0,x=>rfl|1,x=>rfl|2,x=>rfl|3,x=>rfl|4,x=>rfl|5,x=>rfl|6,x=>rfl|7,x=>rfl|8,x=>rfl|9,x=>rfl|10,x=>rfl|11,x=>rfl|12,x=>rfl|13,x=>rfl|14,x=>rfl|15,x=>rfl|16,x=>rfl|17,x=>rfl|_+18,x=>rfl
theorem NU(c:C)(x:c.D):(enc c x).length=c.size:=by rw[Ez,Aj,XJ]
theorem AW9{c:C}{us:List U}{x:c.D}(h:ofC c us=some x):us.length=c.size:=by rw[<-Yb h,XJ]
def Cap.fg:Cap->AR|.t x=>.t x.fg|.vw k c xs=>.vw (.old k) c.size (xs.map (enc c))|.vp k cs=>.vp (.old k) (cs.map U.fg)|.bp id off=>.bp id off
namespace Y
section
variable(R:List GF)
def xr(n:Nat):CD:=match R[n]? with|some g=>g.x|none=>.Lf 0 []
def L0(rows:List (List T)):List (Nat×Nat)->List (List T)| []=>rows|(i,j)::hs=>L0 (IP rows i j .top) hs
def AR.fg:AR->Lv.AR|.t x=>.t x.fg|.und=>.und|.ow x=>.ow x.fg|.owh c xs hs=>.ow (.sl c.size (L0 (xs.map (enc c)) hs))|.al r sub=>.al r sub|.ep r i j=>.ep r i.toNat j|.vw s c xs=>.vw s c.size (xs.map (enc c))|.vp s cs=>.vp s (cs.map U.fg)|.bp id off=>.bp id off|.fn n caps=>.fn (xr R n) (caps.map Cap.fg)
def Ent.fg(e:Ent):Lv.Ent:=⟨e.sh,e.cs.map (AR.fg R)⟩
def En.fg(e:En):Lv.Ent:=⟨e.sh,e.cs.map (AR.fg R)⟩
def fgE(l:List (Nat×Ent)):List (Nat×Lv.Ent):=l.map fun p=>(p.1,p.2.fg R)
def fgB(l:List (Nat×Bx)):List (Nat×List Lv.AR):=l.map fun p=>(p.1,p.2.cs.map (AR.fg R))
def St.fg(S:St):Lv.St:=⟨fgE R S.tm,fgB R S.bx,S.pin⟩
theorem mem_iff{k:Nat}{ks:List Nat}:mem k ks=true↔k∈ks:=by
 induction ks with
 |nil=>simp[mem]|cons x xs a=>
  simp only[mem,List.mem_cons];by_cases h:k=x
  .subst h;simp
  grind[Nat.beq,Nat.eq_of_beq_eq_true]
theorem MY{k:Nat}{ks:List Nat}:mem k ks=false↔k∉ks:=by
 rw[<-mem_iff];cases mem k ks<;>simp
theorem beq_true{a b:Nat}(h:Nat.beq a b=true):a=b:=Hi h
theorem beq_false{a b:Nat}(h:Nat.beq a b=false):a≠b:=HP h
theorem get_eq{α:Type}:∀(l:List (Nat×α)) (k:Nat),get l k=Lv.get l k
 | [],_=>rfl|(j,a)::r,k=>by
  simp only[get,Lv.get];cases h:Nat.beq j k with
  |true=>rw[AW (beq_true h)]|false=>rw[AT (beq_false h),get_eq r k]
theorem AFx{α:Type}:∀(l:List (Nat×α)) (k:Nat) (a:α),put l k a=Lv.put l k a
 | [],_,_=>rfl|(j,b)::r,k,a=>by
  simp only[put,Lv.put];cases h:Nat.beq k j with
  |true=>rw[AW (beq_true h)]|false=>
   rw[AT (beq_false h)];have g:=beq_false h;cases c:Nat.ble k j with
   |true=>have:=Nat.le_of_ble_eq_true c;rw[AW (by omega)]
   |false=>have:¬k<=j:=fun e=>by rw[Nat.ble_eq_true_of_le e]at c;cases c
           rw[AT (by omega),AFx r k a]
theorem iS{α:Type}(ks:List Nat):∀(l:List (Nat×α)),Iz ks l=Lv.Iz ks l
 | []=>rfl|(j,b)::r=>by
  simp only[Iz,Lv.Iz];cases h:mem j ks with
  |true=>rw[AW (mem_iff.1 h),iS ks r]|false=>rw[AT (MY.1 h),iS ks r]
theorem YP{α:Type}(ks:List Nat):∀(l:List (Nat×α)),F6 ks l=Lv.F6 ks l
 | []=>rfl|(j,b)::r=>by
  simp only[F6,Lv.F6];cases h:mem j ks with
  |true=>rw[AW (mem_iff.1 h),YP ks r]|false=>rw[AT (MY.1 h),YP ks r]
theorem get_map{α β:Type}(f:α->β):∀(l:List (Nat×α)) (k:Nat),Lv.get (l.map fun p=>(p.1,f p.2)) k=(Lv.get l k).map f
 | [],_=>rfl|(j,a)::r,k=>by
  simp only[AI,Lv.get];by_cases h:j=k
  .simp[h]
  .simp[h,get_map f r k]
theorem uK{α β:Type}(f:α->β):∀(l:List (Nat×α)) (k:Nat) (a:α),Lv.put (l.map fun p=>(p.1,f p.2)) k (f a)=(Lv.put l k a).map fun p=>(p.1,f p.2)
 | [],_,_=>rfl|(j,b)::r,k,a=>by
  simp only[AI,Lv.put];by_cases h:k=j
  .simp[h]
  .by_cases c:k<j
   .simp[h,c]
   .simp[h,c,uK f r k a]
theorem Xd{α β:Type}(f:α->β)(ks:List Nat):∀(l:List (Nat×α)),Lv.Iz ks (l.map fun p=>(p.1,f p.2))=(Lv.Iz ks l).map fun p=>(p.1,f p.2)
 | []=>rfl|(j,b)::r=>by
  simp only[AI,Lv.Iz];by_cases h:j∈ks
  .simp[h,Xd f ks r]
  .simp[h,Xd f ks r]
theorem Ps{α β:Type}(f:α->β)(ks:List Nat):∀(l:List (Nat×α)),Lv.F6 ks (l.map fun p=>(p.1,f p.2))=(Lv.F6 ks l).map fun p=>(p.1,f p.2)
 | []=>rfl|(j,b)::r=>by
  simp only[AI,Lv.F6];by_cases h:j∈ks
  .simp[h,Ps f ks r]
  .simp[h,Ps f ks r]
variable {R}
theorem V3(S:St)(k:Nat):Lv.get (S.fg R).tm k=(get S.tm k).map (Ent.fg R):=by rw[get_eq];exact get_map (Ent.fg R) S.tm k
theorem Od(S:St)(k:Nat):Lv.get (S.fg R).bx k=(get S.bx k).map (fun b=>b.cs.map (AR.fg R)):=by rw[get_eq];exact get_map (fun b:Bx=>b.cs.map (AR.fg R)) S.bx k
end
end Y
end Lv
namespace Lv
open Go (IntKind BinOp UnOp)
namespace Y
section
variable{R:List GF}
theorem CC.ATD(r r':CC):CC.is r r'=decide (r=r'):=by
 have c:∀a b:Nat,Nat.beq a b=decide (a=b):=fun a b=>by
  grind[Nat.beq,beq_true,beq_false]
 cases r<;>cases r'<;>simp only[CC.is,CC.tmp.injEq,CC.cell.injEq,reduceCtorEq,decide_false]
 .grind
 grind
theorem YL(o:Option CC)(r:CC):isR o r=decide (o=some r):=by
 cases o with
 |none=>simp[isR]|some q=>simp[isR,CC.ATD]
theorem PT(a b:Nat):Nat.beq a b=decide (a=b):=by
 grind[Nat.beq,beq_true,beq_false]
theorem AZQ(o:Option Nat)(r:Nat):isN o r=decide (o=some r):=by
 cases o with
 |none=>simp[isN]|some q=>simp[isN,PT]
theorem SP(k:Nat)(ks:List Nat):mem k ks=decide (k∈ks):=by
 grind[mem,mem_iff,MY]
@[simp] theorem J7(l:AR):(AR.fg R l).Bz=l.Bz:=by
 cases l<;>try rfl
 .rename_i s c xs;cases s<;>rfl
 .rename_i s cs;cases s<;>rfl
@[simp] theorem AOA(l:AR):(AR.fg R l).K6=l.K6:=by
 cases l<;>try rfl
 .rename_i r sub;cases r<;>rfl
 .rename_i r i j;cases r<;>rfl
 .rename_i s c xs;cases s with
  |own r p=>cases r<;>rfl
  |old k=>rfl
 .rename_i s cs;cases s with
  |own r p=>cases r<;>rfl
  |old k=>rfl
@[simp] theorem ADJ(l:Cap):l.fg.K6=l.K6:=by cases l<;>rfl
theorem Y2(l:Cap):AR.fg R l.leaf=l.fg:=by cases l<;>rfl
theorem ALe(r:CC)(l:AR):Lv.Km r (AR.fg R l)=Km r l:=by simp[Lv.Km,Km,YL]
theorem P0(r:CC)(l:AR):Lv.E2 r (AR.fg R l)=E2 r l:=by
 cases l<;>try rfl
 .rename_i s c xs;cases s with|own r p=>simp[AR.fg,Lv.E2,E2,CC.ATD]|old k=>rfl
 .rename_i s cs;cases s with|own r p=>simp[AR.fg,Lv.E2,E2,CC.ATD]|old k=>rfl
theorem WV(d:Nat)(l:AR):Lv.Ec d (AR.fg R l)=Ec d l:=by
 grind[Lv.Ec,Ec,J7,PT]
theorem WU(d:Nat)(l:AR):Lv.FK d (AR.fg R l)=FK d l:=by
 have h:=AOA (R:=R) l;cases l<;>simp only[AR.fg]at h ⊢ <;> simp only[Lv.FK,FK,AZQ]<;>first|rw[h]|skip
 simp[G4,Function.comp_def]
theorem AZk(ks:List Nat)(o:Option Nat):(match o with|some d=>decide (d∉ks)|none=>false)=(match o with|some d=>!mem d ks|none=>false):=by
 grind[SP]
theorem ALd(ks:List Nat)(l:AR):Lv.Kl ks (AR.fg R l)=Kl ks l:=by
 have h:=AOA (R:=R) l;cases l with
 |fn n caps=>
  simp only[AR.fg,Lv.Kl,Kl,G4,Function.comp_def,ADJ];congr 1;funext x;exact AZk ks _
 |_=>
  grind[AR.fg,Lv.Kl,Kl,AR.K6,SP]
theorem jq(ks:List Nat)(l:AR):Lv.Hz ks (AR.fg R l)=Hz ks l:=by
 grind[Lv.Hz,Hz,J7,ALd,SP]
theorem AJr(ks:List Nat)(l:AR):Lv.YI ks (AR.fg R l)=YI ks l:=by
 grind[Lv.YI,YI,J7,SP]
theorem LK{q:AR->Bool}{q':Lv.AR->Bool}(a:∀l,q' (AR.fg R l)=q l):∀ls,Lv.D8 q' (ls.map (AR.fg R))=(D8 q ls).map (AR.fg R)
 | []=>rfl|l::ls=>by
  simp only[AI,Lv.D8,D8,a,LK a ls];cases q l<;>rfl
theorem T1{q:AR->Bool}:∀{ls:List AR},ls.any q=false->D8 q ls=ls
 | [],_=>rfl|l::ls,h=>by
  simp only[List.any_cons,Bool.or_eq_false_iff]at h;simp only[D8,h.1,Bool.false_eq_true,if_false,T1 h.2]
theorem WO{q:AR->Bool}{q':Lv.AR->Bool}(a:∀l,q' (AR.fg R l)=q l)(v:Nat):∀ls,Lv.KS q' (fgE R ls)=fgE R (KS v q ls)
 | []=>rfl|(k,e)::ls=>by
  have c:=WO a v ls;simp only[fgE,AI,Lv.KS,KS]at c ⊢;rw[c];congr 2;simp only[Ent.fg];cases h:e.cs.any q with
  |true=>simp only[if_true,LK a]|false=>rw[AT (by simp),LK a,T1 h]
theorem WN{q:AR->Bool}{q':Lv.AR->Bool}(a:∀l,q' (AR.fg R l)=q l)(v:Nat):∀ls,Lv.KR q' (fgB R ls)=fgB R (KR v q ls)
 | []=>rfl|(k,e)::ls=>by
  have c:=WN a v ls;simp only[fgB,AI,Lv.KR,KR]at c ⊢;rw[c];congr 2;cases h:e.cs.any q with
  |true=>simp only[if_true,LK a]|false=>rw[AT (by simp),LK a,T1 h]
theorem Jz{q:AR->Bool}{q':Lv.AR->Bool}(a:∀l,q' (AR.fg R l)=q l)(S:St):(S.fg R).kill q'=(S.kill q).fg R:=by
 simp only[St.fg,Lv.St.kill,St.kill,WO a S.nv,WN a S.nv]
theorem K2(S:St)(d:Nat)(sh:Sh)(cs:List AR):(S.JM d sh cs).fg R={ S.fg R with tm:=Lv.put (S.fg R).tm d ⟨sh,cs.map (AR.fg R)⟩}:=by
 simp only[St.fg,St.JM,AFx,fgE];rw[<-uK (Ent.fg R)];rfl
theorem SX(S:St)(d:Nat)(cs:List AR):(S.NN d cs).fg R={ S.fg R with bx:=Lv.put (S.fg R).bx d (cs.map (AR.fg R))}:=by
 simp only[St.fg,St.NN,AFx,fgB];rw[<-uK (fun b:Bx=>b.cs.map (AR.fg R))]
theorem AA9(S:St)(ks:List Nat):(S.Hj ks).fg R=(S.fg R).Hj ks:=by
 simp only[St.fg,Lv.St.Hj,St.Hj,iS];rw[<-WO (AJr ks),<-WN (AJr ks)];simp only[fgE];rw[<-Xd]
theorem UZ(S:St)(ks:List Nat):(S.clean ks).fg R=(S.fg R).clean ks:=by
 simp only[St.fg,Lv.St.clean,St.clean,YP];rw[<-WO (jq ks),<-WN (jq ks)];simp only[fgE,fgB];rw[<-Ps,<-Ps (fun b:Bx=>b.cs.map (AR.fg R))]
theorem Iy(S:St)(r:CC):(S.fg R).at r=(S.at r).map (AR.fg R):=by
 cases r with
 |tmp s c=>
  grind[Lv.St.at,St.at,V3,get,Ent.fg]
 |cell s c=>
  grind[Lv.St.at,St.at,Od,get]
theorem F9(S:St)(r:CC)(l:AR):(S.Bh r l).fg R=(S.fg R).Bh r (AR.fg R l):=by
 cases r with
 |tmp s c=>
  simp only[Lv.St.Bh,St.Bh,V3];cases h:get S.tm s with
  |none=>rfl|some e=>simp[K2,Ent.fg]
 |cell s c=>
  simp only[Lv.St.Bh,St.Bh,Od];cases h:get S.bx s with
  |none=>rfl|some e=>simp[SX]
theorem ADb{l:AR}:AR.fg R l=.t .nil↔l=.t .nil:=by
 cases l<;>simp[AR.fg];rename_i x;cases x<;>simp[U.fg]
theorem AZh(S:St)(r:CC)(c:C):AR.fg R (S.nl0 r c)=(S.fg R).nl0 r c.size:=by
 cases r with
 |tmp s k=>rfl|cell id k=>
  simp only[St.nl0,Lv.St.nl0,SP];have a:(S.fg R).pin=S.pin:=rfl
  grind[AR.fg,U.fg]
def Rw.fg:Rw->List (List T)|.nl=>[]|.of c xs=>xs.map (enc c)
theorem TW{x:U}{w:Rw}(h:content x=some w):Lv.content x.fg=some w.fg:=by
 cases x<;>simp[content]at h<;>subst h<;>rfl
theorem Ys{α β:Type}(f:α->β)(sub:Option (Nat×Nat))(xs:List α):(lD sub xs).map f=lD sub (xs.map f):=by
 cases sub with
 |none=>rfl|some p=>simp[lD]
theorem vD(sub:Option (Nat×Nat))(xs:List (List T)):Is sub xs=lD sub xs:=by cases sub<;>rfl
theorem AVS(sub:Option (Nat×Nat))(w:Rw):(w.sub sub).fg=Is sub w.fg:=by
 cases w with
 |nl=>cases sub<;>simp[Rw.sub,Rw.fg,Is]
 |of c xs=>simp only[Rw.sub,Rw.fg,Ys,vD]
theorem ar{c:C}{w:Rw}{ys:List c.D}(h:w.as c=some ys):w.fg=ys.map (enc c):=by
 cases w with
 |nl=>cases h;rfl
 |of e xs=>
  simp only[Rw.as]at h;split at h
  .rename_i a;subst a;cases h;rfl
  .cases h
theorem Wz(sub:Option (Nat×Nat))(x:U):(AGP sub x).fg=mD sub x.fg:=by
 cases x<;>try rfl
 simp only[AGP,U.fg,mD,Ys,vD]
theorem Oc{S:St}{l:AR}{w:Rw}(h:S.elems l=some w):(S.fg R).elems (AR.fg R l)=some w.fg:=by
 unfold St.elems at h;split at h
 .grind[AR.fg,Lv.St.elems,Iy,TW,AVS]
 .cases h;rfl
 .cases h;rfl
 .cases h
theorem AYl(s c:Nat)(l:AR):AR.fg R (l.ali s c)=(AR.fg R l).ali s c:=by cases l<;>rfl
theorem pz(s:Nat):∀(c:Nat) (ls:List AR),(Qc s c ls).map (AR.fg R)=Lv.Qc s c (ls.map (AR.fg R))|_,[]=>rfl|c,l::ls=>by simp only[Qc,AI,Lv.Qc,AYl,pz s (c+1) ls]
theorem AGi(b:Nat):∀(c:Nat) (ls:List AR),(PQ b c ls).map (AR.fg R)=Lv.PQ b c (ls.map (AR.fg R))
 |_,[]=>rfl|c,l::ls=>by
  have a:=AGi b (c+1) ls;cases l<;>simp only[PQ,AI,AR.fg,Lv.PQ,a]
theorem ATJ(x:U):AR.fg R (oY x)=Lv.oY x.fg:=by cases x<;>rfl
def YO.er(R:List GF):YO->Opd|.tmp t=>.tmp t|.k x=>.k x.fg|.fn n=>.fn (xr R n)
theorem KT{S:St}{x:YO}{e:En}(h:S.rd x=some e):(S.fg R).rd (x.er R)=some (e.fg R):=by
 cases x with
 |tmp s=>
  grind[St.rd,YO.er,Lv.St.rd,V3,get,Ent.fg,En.fg,pz]
 |k x=>cases h;simp[YO.er,Lv.St.rd,En.fg,ATJ]
 |fn n=>cases h;rfl
theorem Yk{S:St}:∀{xs:List YO} {es:List En},S.rds xs=some es->(S.fg R).rds (xs.map (YO.er R))=some (es.map (En.fg R))
 | [],es,h=>by cases h;rfl
 |x::xs,es,h=>by
  simp only[St.rds]at h;split at h
  .rename_i e a c g;cases h;simp only[AI,Lv.St.rds,KT c,Yk g]
  .cases h
structure BS(S S':St):Prop where
 nv:S.nv<=S'.nv
 tm:∀k e,get S'.tm k=some e->e.ver<S.nv->get S.tm k=some e
 bx:∀k e,get S'.bx k=some e->e.ver<S.nv->get S.bx k=some e
 pin:S'.pin=S.pin
theorem BS.refl(S:St):BS S S:=⟨Nat.le_refl _,fun _ _ h _=>h,fun _ _ h _=>h,rfl⟩
theorem BS.trans{S S' S2:St}(h:BS S S')(c:BS S' S2):BS S S2:=
 ⟨Nat.le_trans h.nv c.nv,fun k e g a=>h.tm k e (c.tm k e g (BQ a h.nv)) a,fun k e g a=>h.bx k e (c.bx k e g (BQ a h.nv)) a,c.pin.trans h.pin⟩
theorem FQ{α:Type}(l:List (Nat×α))(k j:Nat)(a:α):get (put l k a) j=if j=k then some a else get l j:=by
 induction l with
 |nil=>
  by_cases h:j=k
  .subst h;simp[put,get]
  grind[put,get,Nat.beq,beq_true]
 |cons p r c=>
  grind[put,Nat.beq,beq_true,get,beq_false,Nat.ble]
theorem BS.JM(S:St)(d:Nat)(sh:Sh)(cs:List AR):BS S (S.JM d sh cs):=by
 refine⟨by simp[St.JM],fun k e a c=>?_,fun k e a _=>a,rfl⟩
 grind[St.JM,FQ]
theorem BS.NN(S:St)(d:Nat)(cs:List AR):BS S (S.NN d cs):=by
 refine⟨by simp[St.NN],fun k e a _=>a,fun k e a c=>?_,rfl⟩
 grind[St.NN,FQ]
theorem Em{v:Nat}{q:AR->Bool}:∀{l:List (Nat×Ent)} {k:Nat} {e:Ent},get (KS v q l) k=some e->e.ver<v->get l k=some e
 | [],_,_,h,_=>h|(i,b)::r,k,e,h,c=>by
  simp only[KS,get]at h ⊢;cases a:Nat.beq i k with
  |true=>
   grind[Option.some.injEq]
  |false=>rw[a]at h;exact Em h c
theorem DF{v:Nat}{q:AR->Bool}:∀{l:List (Nat×Bx)} {k:Nat} {e:Bx},get (KR v q l) k=some e->e.ver<v->get l k=some e
 | [],_,_,h,_=>h|(i,b)::r,k,e,h,c=>by
  simp only[KR,get]at h ⊢;cases a:Nat.beq i k with
  |true=>
   grind[Option.some.injEq]
  |false=>rw[a]at h;exact DF h c
theorem Ke{α:Type}{ks:List Nat}:∀{l:List (Nat×α)} {k:Nat} {e:α},get (Iz ks l) k=some e->get l k=some e
 | [],_,_,h=>h|(i,b)::r,k,e,h=>by
  simp only[Iz]at h;simp only[get];cases y:mem i ks with
  |true=>
   rw[y]at h;cases a:Nat.beq i k with
   |true=>
    have q:=beq_true a;subst q;exfalso;have:∀(l:List (Nat×α)) (e:α),get (Iz ks l) i≠some e:=by
     intro l
     induction l with
     |nil=>intro e h;cases h
     |cons p r E=>
      intro e h;obtain⟨j,c⟩:=p;simp only[Iz]at h;cases g:mem j ks with
      |true=>rw[g]at h;exact E e h|false=>
       rw[g]at h;simp only[get]at h;cases B:Nat.beq j i with
       |true=>have:=beq_true B;subst this;rw[y]at g;cases g
       |false=>rw[B]at h;exact E e h
    exact this r e h
   |false=>exact Ke h
  |false=>
   rw[y]at h;simp only[get]at h;cases a:Nat.beq i k with
   |true=>rw[a]at h;exact h|false=>rw[a]at h;exact Ke h
theorem Gp{α:Type}{ks:List Nat}:∀{l:List (Nat×α)} {k:Nat} {e:α},get (F6 ks l) k=some e->get l k=some e
 | [],_,_,h=>h|(i,b)::r,k,e,h=>by
  simp only[F6]at h;simp only[get];cases y:mem i ks with
  |false=>
   rw[y]at h;cases a:Nat.beq i k with
   |true=>
    have q:=beq_true a;subst q;exfalso;have:∀(l:List (Nat×α)) (e:α),get (F6 ks l) i≠some e:=by
     intro l
     induction l with
     |nil=>intro e h;cases h
     |cons p r E=>
      intro e h;obtain⟨j,c⟩:=p;simp only[F6]at h;cases g:mem j ks with
      |false=>rw[g]at h;exact E e h|true=>
       rw[g]at h;simp only[get]at h;cases B:Nat.beq j i with
       |true=>have:=beq_true B;subst this;rw[y]at g;cases g
       |false=>rw[B]at h;exact E e h
    exact this r e h
   |false=>exact Gp h
  |true=>
   rw[y]at h;simp only[get]at h;cases a:Nat.beq i k with
   |true=>rw[a]at h;exact h|false=>rw[a]at h;exact Gp h
theorem BS.kill(S:St)(q:AR->Bool):BS S (S.kill q):=
 ⟨by simp[St.kill],fun _ _ a c=>Em a c,fun _ _ a c=>DF a c,rfl⟩
theorem BS.Hj(S:St)(ks:List Nat):BS S (S.Hj ks):=
 ⟨by simp[St.Hj],fun _ _ a c=>Ke (Em a c),fun _ _ a c=>DF a c,rfl⟩
theorem BS.clean(S:St)(ks:List Nat):BS S (S.clean ks):=
 ⟨by simp[St.clean],fun _ _ a c=>Gp (Em a c),fun _ _ a c=>Gp (DF a c),rfl⟩
theorem BS.Bh(S:St)(r:CC)(l:AR):BS S (S.Bh r l):=by
 cases r<;>simp only[St.Bh]<;>split<;>first|exact BS.JM _ _ _ _|exact BS.NN _ _ _|exact BS.refl _
theorem BS.out(S:St)(r:CC):BS S (S.out r):=(BS.Bh _ _ _).trans (BS.kill _ _)
theorem BS.YZ(S:St)(r:CC)(c:C):BS S (S.YZ r c):=by
 unfold St.YZ St.turn
 repeat' split
 all_goals first|exact BS.refl _|exact BS.Bh _ _ _|exact((BS.out _ _).trans (BS.Bh _ _ _)).trans (BS.Bh _ _ _)
theorem BS.Py:∀(ns:List (CC×C)) (S:St),BS S (S.Py ns)| [],S=>BS.refl S|(r,c)::ns,S=>(BS.YZ S r c).trans (BS.Py ns _)
theorem Ft{γ:Type}(n:Nat)(K:Nat->γ):DH n K=K n:=by cases n<;>rfl
theorem U.Ef{γ:Type}(x:U)(K:U->γ):x.FP K=K x:=by cases x<;>rfl
theorem ie{γ:Type}:∀(xs:List U) (K:List U->γ),aN xs K=K xs| [],K=>rfl|x::xs,K=>by simp only[aN,U.Ef,ie xs]
theorem oN{γ:Type}(r:CC)(K:CC->γ):ib r K=K r:=by cases r<;>simp only[ib,Ft]
theorem ABM{γ:Type}(r:Src)(K:Src->γ):RD r K=K r:=by
 cases r with
 |own r p=>simp only[RD,oN];cases p with|none=>rfl|some p=>obtain⟨i,j⟩:=p;simp only[Ft]
 |old k=>simp only[RD,Ft]
theorem AR.Ef{γ:Type}(x:AR)(K:AR->γ):x.FP K=K x:=by
 cases x<;>simp only[AR.FP,U.Ef,oN,Ft,ABM,ie]
 grind
theorem Pe{γ:Type}:∀(xs:List AR) (K:List AR->γ),SL xs K=K xs| [],K=>rfl|x::xs,K=>by simp only[SL,AR.Ef,Pe xs]
theorem Tf{γ:Type}:∀(xs:List (Option Nat)) (K:List (Option Nat)->γ),SM xs K=K xs| [],K=>rfl|none::xs,K=>by simp only[SM,Tf xs]|some n::xs,K=>by simp only[SM,Ft,Tf xs]
theorem ic{γ:Type}(x:Sh)(K:Sh->γ):aM x K=K x:=by cases x<;>simp only[aM,Tf,Ft]
theorem oK{γ:Type}:∀(xs:List (Nat×Ent)) (K:List (Nat×Ent)->γ),rC xs K=K xs| [],K=>rfl|(k,⟨sh,cs,v⟩)::xs,K=>by simp only[rC,ic,Pe,Ft,oK xs]
theorem oJ{γ:Type}:∀(xs:List (Nat×Bx)) (K:List (Nat×Bx)->γ),rB xs K=K xs| [],K=>rfl|(k,⟨cs,v⟩)::xs,K=>by simp only[rB,Pe,Ft,oJ xs]
theorem oM{γ:Type}:∀(xs:List Nat) (K:List Nat->γ),rD xs K=K xs| [],K=>rfl|k::xs,K=>by simp only[rD,oM xs]
theorem Ef{γ:Type}(S:St)(K:St->γ):S.FP K=K S:=by
 obtain⟨tm,bx,pin,nv⟩:=S;simp only[St.FP,oK,oJ,oM,Ft]
theorem AKB{α γ:Type}(s:Nat)(a:α):∀(l:List (Nat×α)) (K:List (Nat×α)->γ),AXL s a l K=K (put l s a)
 | [],K=>rfl|(k,b)::r,K=>by
  simp only[AXL,put];cases Nat.beq s k with
  |true=>rfl|false=>cases Nat.ble s k with|true=>rfl|false=>simp only[AKB s a r]
variable{ρ:Type}
theorem aY{S:St}{d:Nat}{sh:Sh}{cs:List AR}{K:St->Option ρ}{r:ρ}(h:G2 S d sh cs K=some r) :
 ∃S',(S.fg R).Ds d ⟨sh,cs.map (AR.fg R)⟩=some (S'.fg R)/\BS S S'/\K S'=some r:=by
 unfold G2 at h;cases c:mem d S.pin with
 |true=>rw[c]at h;cases h
 |false=>
  rw[c]at h;have g:d∉(S.fg R).pin:=MY.1 c;cases a:get S.tm d with
  |none=>
   rw[a]at h;simp only[ic,Pe,Ft,AKB]at h;refine⟨S.JM d sh cs,?_,BS.JM _ _ _ _,h⟩
   grind[K2,Lv.St.Ds,V3]
  |some e=>
   rw[a]at h;simp only[Ef]at h;refine⟨_,?_,(BS.kill _ _).trans (BS.JM _ _ _ _),h⟩;unfold Lv.St.Ds;rw[AT g,V3,a,K2,<-Jz (WV d),<-LK (WV d)];rfl
end
end Y
end Lv
namespace Lv
open Go (IntKind BinOp UnOp)
namespace Y
section
variable{R:List GF}
theorem AWx(l:AR):Lv.tG (AR.fg R l)=tG l:=by cases l<;>rfl
theorem AVB(a b:Option CC):(match a with|some r=>isR b r|none=>b.isNone)=decide (a=b):=by
 cases a with
 |none=>cases b<;>simp
 |some r=>simp only[YL];rw[decide_eq_decide];exact eq_comm
theorem pb:∀ls:List AR,Lv.NJ (ls.map (AR.fg R))=NJ ls
 | []=>rfl|l::ls=>by
  simp only[AI,Lv.NJ,NJ,pb ls,Ll,Function.comp_def,AWx,J7];congr 1;refine congrArg (fun f=>List.all ls f) (funext fun l'=>?_);rw[<-AVB]<;>(cases l.Bz<;>rfl)
theorem T7(S:St)(r:CC):(S.out r).fg R=(S.fg R).out r:=by
 unfold St.out Lv.St.out;rw[<-Jz (ALe r),F9];rfl
theorem AXj(S:St)(r:CC):(S.turn r).fg R=(S.fg R).turn r:=by
 unfold St.turn Lv.St.turn;rw[Iy];cases h:S.at r with
 |none=>rfl|some l=>
  cases l with
  |al r' sub=>
   cases sub with
   |none=>
    simp only[Ap,AR.fg];rw[Iy];cases a:S.at r' with
    |none=>rfl|some l'=>cases l'<;>simp[AR.fg,F9,T7]
   |some p=>rfl
  |_=>rfl
theorem AW7(S:St)(r:CC)(c:C):(S.YZ r c).fg R=(S.fg R).YZ r c.size:=by
 unfold St.YZ Lv.St.YZ;cases a:Nat.beq c.size 0 with
 |true=>rw[AW (Hi a)];exact AXj S r|false=>
  rw[AT (HP a),Iy];cases h:S.at r with
  |none=>rfl|some l=>grind[AR.fg,U.fg,F9,AZh,ADb]
theorem tO:∀(ns:List (CC×C)) (S:St),(S.Py ns).fg R=(S.fg R).Py (ns.map fun p=>(p.1,p.2.size))| [],S=>rfl|(r,c)::ns,S=>by simp only[St.Py,AI,Lv.St.Py];rw[tO ns,AW7]
theorem lI:∀{ls:List AR} {S S':St} {ls':List AR},I9 S ls=some (S',ls')->Lv.I9 (S.fg R) (ls.map (AR.fg R))=some (S'.fg R,ls'.map (AR.fg R))/\BS S S'
 | [],S,S',ls',h=>by cases h;exact⟨rfl,BS.refl _⟩
 |l::ls,S,S',ls',h=>by
  have gen:(match I9 S ls with|some (S',ls')=>some (S',l::ls')|none=>none)=some (S',ls') ->
   (match Lv.I9 (S.fg R) (ls.map (AR.fg R)) with|some (S',ls')=>some (S',AR.fg R l::ls')|none=>none)=some (S'.fg R,ls'.map (AR.fg R))/\BS S S':=by
   intro h;split at h
   .rename_i S2 j c;cases h;obtain⟨a,e⟩:=lI c;rw[a];exact⟨rfl,e⟩
   .cases h
  cases l with
  |al r sub=>
   simp only[I9]at h;simp only[AI,AR.fg,Lv.I9,Iy];split at h
   .rename_i x g;rw[g];split at h
    .rename_i S2 j c;cases h;obtain⟨a,e⟩:=lI c;rw[T7]at a;simp only[Ap,AR.fg,a,AI,Wz];exact⟨trivial,(BS.out _ _).trans e⟩
    .cases h
   .cases h
  |_=>exact gen h
theorem PE{ls:List AR}{S S':St}{ls':List AR}(h:KU S ls=some (S',ls')):Lv.KU (S.fg R) (ls.map (AR.fg R))=some (S'.fg R,ls'.map (AR.fg R))/\BS S S':=by
 grind[KU,Lv.KU,pb,lI]
theorem AWE{x:YO}{ls:List AR}{S S':St}{ls':List AR}(h:qJ S x ls=some (S',ls')):Lv.qJ (S.fg R) (x.er R) (ls.map (AR.fg R))=some (S'.fg R,ls'.map (AR.fg R))/\BS S S':=by
 cases x with
 |tmp s=>
  unfold qJ at h;unfold Lv.qJ;simp only[YO.er];dsimp only at h;split at h
  .rename_i a;rw[AW (show s∈(S.fg R).pin from mem_iff.1 a)];cases h;exact⟨rfl,BS.refl _⟩
  .rename_i a;rw[AT (show s∉(S.fg R).pin from MY.1 a)];exact PE h
 |k y=>exact PE h|fn n=>exact PE h
theorem jT(x:U):Lv.QQ x.fg=QQ x:=by cases x<;>rfl
theorem AW0(x:U):Lv.YM x.fg=YM x:=by cases x<;>rfl
theorem ALE(rows:List (List T)):∀(c:List (Nat×Nat)) (i j:Nat),L0 rows (c++[(i,j)])=IP (L0 rows c) i j .top:=by
 intro c
 induction c generalizing rows with
 |nil=>intro i j;rfl
 |cons p c e=>intro i j;obtain⟨a,b⟩:=p;simp only[List.cons_append,L0];exact e _ i j
theorem AKA{S S':St}{r:CC}{i j:Nat}(h:S.pull r i j=some S'):(S.fg R).pull r i j=some (S'.fg R)/\BS S S':=by
 unfold St.pull at h;unfold Lv.St.pull;rw[Iy];split at h
 .rename_i c xs a;cases h;rw[a];simp only[Ap,AR.fg,U.fg,AD];refine⟨?_,(BS.Bh _ _ _).trans (BS.kill _ _)⟩;rw[<-Jz (P0 r),F9];rfl
 .rename_i c xs e a;cases h;rw[a];simp only[Ap,AR.fg,AD];refine⟨?_,(BS.Bh _ _ _).trans (BS.kill _ _)⟩;rw[<-Jz (P0 r),F9];simp only[AR.fg,ALE]
 .cases h
theorem ATm(r:CC):∀ls:List AR,Lv.onR r (ls.map (AR.fg R))=onR r ls| []=>rfl|l::ls=>by simp only[AI,Lv.onR,onR,J7,YL,ATm r ls]
theorem K1:∀{ls:List AR} {S S':St} {us:List U},DW S ls=some (S',us)->Lv.DW (S.fg R) (ls.map (AR.fg R))=some (S'.fg R,us.map U.fg)/\BS S S'
 | [],S,S',us,h=>by cases h;exact⟨rfl,BS.refl _⟩
 |l::ls,S,S',us,h=>by
  cases l with
  |t x=>
   simp only[DW]at h;simp only[AI,AR.fg,Lv.DW,jT];split at h
   .cases h
   .rename_i y;rw[AT y];split at h
    .rename_i S2 E e;cases h;obtain⟨a,g⟩:=K1 e;rw[a];exact⟨rfl,g⟩
    .cases h
  |al r sub=>
   simp only[DW]at h;simp only[AI,AR.fg,Lv.DW,Iy];split at h
   .rename_i x B;rw[B];split at h
    .rename_i S2 E e;cases h;obtain⟨a,g⟩:=K1 e;rw[T7]at a;simp only[Ap,AR.fg,a,AI,Wz];exact⟨trivial,(BS.out _ _).trans g⟩
    .cases h
   .cases h
  |vw s c xs=>
   cases s with
   |old k=>cases h
   |own r p=>
    cases p with
    |none=>
     simp only[DW]at h;simp only[AI,AR.fg,Lv.DW,Iy];split at h
     .rename_i x B;rw[B];split at h
      .rename_i S2 E e;cases h;obtain⟨a,g⟩:=K1 e;rw[T7]at a;simp only[Ap,AR.fg,a,AI,U.fg];exact⟨trivial,(BS.out _ _).trans g⟩
      .cases h
     .cases h
    |some q=>
     obtain⟨i,j⟩:=q;simp only[DW]at h;simp only[AI,AR.fg,Lv.DW,ATm];split at h
     .cases h
     .rename_i y;rw[AT y];split at h
      .rename_i S1 G;obtain⟨H,I⟩:=AKA (R:=R) G;rw[H];split at h
       .rename_i S2 E e;cases h;obtain⟨a,g⟩:=K1 e;simp only[a,AI,U.fg];exact⟨trivial,I.trans g⟩
       .cases h
      .cases h
  |_=>cases h
theorem AVo{S:St}{l:AR}{u:U}(h:S.Gz l=some u):(S.fg R).Gz (AR.fg R l)=some u.fg:=by
 cases l with
 |t x=>cases h;rfl
 |al r sub=>
  grind[St.Gz,AR.fg,Lv.St.Gz,Iy,Wz]
 |vw s c xs=>cases h;rfl
 |ow x=>cases h;rfl
 |_=>cases h
theorem Se{S:St}:∀{ls:List AR} {us:List U},S.Gu ls=some us->(S.fg R).Gu (ls.map (AR.fg R))=some (us.map U.fg)
 | [],us,h=>by cases h;rfl
 |l::ls,us,h=>by
  simp only[St.Gu]at h;split at h
  .rename_i x xs a c;cases h;simp only[AI,Lv.St.Gu,AVo a,Se c]
  .cases h
theorem AN7{k:Nat}{l:AR}{u:U}(h:OF k l=some u):Lv.OF k (AR.fg R l)=some u.fg:=by
 cases l with
 |t x=>cases h;rfl
 |vw s c xs=>
  cases s with
  |own r p=>cases h
  |old e=>
   simp only[OF]at h;simp only[AR.fg,Lv.OF];split at h
   .rename_i a;cases h;rw[AW a];rfl
   .cases h
 |_=>cases h
theorem OG{k:Nat}:∀{ls:List AR} {us:List U},FH k ls=some us->Lv.FH k (ls.map (AR.fg R))=some (us.map U.fg)
 | [],us,h=>by cases h;rfl
 |l::ls,us,h=>by
  simp only[FH]at h;split at h
  .rename_i x xs a c;cases h;simp only[AI,Lv.FH,AN7 a,OG c]
  .cases h
theorem M5:∀ls:List AR,Lv.DL (ls.map (AR.fg R))=DL ls
 | []=>rfl|l::ls=>by
  have a:=M5 ls;cases l with
  |vw s c xs=>cases s with|old k=>rfl|own r p=>simpa[AR.fg,Lv.DL,DL] using a
  |_=>simpa[AR.fg,Lv.DL,DL] using a
theorem ATO(k:Nat)(u:U):AR.fg R (D4 k u)=Lv.D4 k u.fg:=by cases u<;>rfl
theorem ATK(u:U):AR.fg R (I6 u)=Lv.I6 u.fg:=by cases u<;>rfl
theorem oX(s:Src)(u:U):AR.fg R (J0 s u)=Lv.J0 s u.fg:=by cases u<;>rfl
theorem Oo(k:Nat)(us:List U):(us.map (D4 k)).map (AR.fg R)=(us.map U.fg).map (Lv.D4 k):=by simp[Function.comp_def,ATO]
theorem YW(us:List U):(us.map I6).map (AR.fg R)=(us.map U.fg).map Lv.I6:=by simp[Function.comp_def,ATK]
theorem kf:∀ls:List AR,Lv.Ng (ls.map (AR.fg R))=Ng ls| []=>rfl|l::ls=>by simp only[AI,Lv.Ng,Ng,J7,kf ls]
theorem ALh(l:AR):Lv.P3 (AR.fg R l)=P3 l:=by
 cases l<;>try rfl
 .rename_i r sub;cases sub<;>rfl
 .rename_i s c xs;cases s with
  |own r p=>cases p<;>rfl
  |old k=>rfl
theorem AWH{S:St}{m:Bool}{l:Cap}{us:List U}(h:AYz S m l=some us):Lv.AKq (S.fg R) l.fg=some (match m with|false=>.v .one (us.map U.fg)|true=>.p (us.map U.fg)):=by
 cases m<;>cases l<;>simp only[AYz]at h
 .cases h;rfl
 .cases h;rfl
 .cases h
 .cases h
 .cases h
 .cases h
 .cases h;rfl
 .rename_i id off;simp only[Cap.fg,Lv.AKq,Od];split at h
  .rename_i ls a;rw[a];split at h
   .rename_i c;simp only[Ap,kf,c,if_true];have:=Se (R:=R) h;rw[CU]at this;rw[this];rfl
   .cases h
  .cases h
theorem wA{S:St}:∀{l:List (Bool×C)} {cs:List Cap} {y:po l},AG4 S l cs=some y->Lv.bB (S.fg R) (cs.map Cap.fg)=some (Qh l y)
 | [],[],y,h=>by cases h;rfl
 |(m,c)::l,[],y,h=>by cases h
 | [],a::cs,y,h=>by cases h
 |(m,c)::l,a::cs,y,h=>by
  simp only[AG4]at h;split at h
  .rename_i us e;split at h
   .rename_i x q g j;cases h;simp only[AI,Lv.bB,AWH e,wA j];cases m<;>simp only[Qh,H0 g]
   .cases h
  .cases h
theorem Wr{a b:Sh}(h:ANK a b=true):a=b:=by cases a<;>cases b<;>simp[ANK]at h<;>rfl
end
end Y
end Lv
namespace Lv
open Go (IntKind BinOp UnOp)
namespace Y
section
variable{R:List GF}
def Al(R:List GF)(fs:List Nat)(xs:List CD):Prop:=∀(i:Nat) (x:CD) (n:Nat),xs[i]?=some x->fs[i]?=some n->xr R n=x
theorem Al.of{fs:List Nat}{xs:List CD}(h:fs.map (fun n=>(R[n]?).map GF.x)=xs.map some):Al R fs xs:=by
 intro i x n a c;have e:=congrArg (fun l=>l[i]?) h;simp only[List.getElem?_map,a,c,Ap]at e;unfold xr
 grind
theorem Al.nil(xs:List CD):Al R [] xs:=by intro i x n _ h;simp at h
theorem Al.tail{fs:List Nat}{x:CD}{xs:List CD}(h:Al R fs (x::xs)):Al R fs.tail xs:=by
 intro i y n e c;cases fs with
 |nil=>simp at c|cons a fs=>exact h (i+1) y n (by simpa using e) (by simpa using c)
theorem AVZ(k:PK):k.md.Ed=PK.Ed k:=by cases k<;>rfl
theorem pn(k:PK):k.md.writes=PK.writes k:=by cases k<;>rfl
theorem ACv:∀(ks:List PK) (es:List En),Lv.Gy (ks.map PK.md) (es.map (En.fg R))=(Gy ks es).map (AR.fg R)
 | [],es=>by cases es<;>rfl
 |k::ks,[]=>rfl|k::ks,e::es=>by
  simp only[AI,Lv.Gy,Gy,AVZ,List.map_append,ACv ks es];congr 1;split<;>simp[En.fg]
def bp0:En->Option Nat|⟨.one,[.bp id 0]⟩=>some id|_=>none
def AZS:Lv.Ent->Option Nat|⟨.one,[.bp id 0]⟩=>some id|_=>none
theorem AOB(e:En):AZS (e.fg R)=bp0 e:=by
 obtain⟨sh,cs⟩:=e;cases sh<;>try rfl
 rcases cs with _|⟨l,_|⟨a,ls⟩⟩
 .rfl
 .cases l<;>try rfl
  rename_i id off;cases off<;>rfl
 .cases l<;>try rfl
  rename_i id off;cases off<;>rfl
theorem AWC(S:St)(c:C)(ks:List PK)(e:En)(es:List En):EM S (.b c::ks) (e::es)=match bp0 e with
 |some id=>(match get S.bx id with|some ls=>EM (S.NN id (ls.cs.map fun _=>.t .top)) ks es|none=>EM S ks es)
 |none=>EM S ks es:=by
 obtain⟨sh,cs⟩:=e;cases sh<;>try rfl
 rcases cs with _|⟨l,_|⟨a,ls⟩⟩
 .rfl
 .cases l<;>try rfl
  rename_i id off;cases off<;>rfl
 .cases l<;>try rfl
  rename_i id off;cases off<;>rfl
theorem ATI(S:Lv.St)(ms:List Md)(e:Lv.Ent)(es:List Lv.Ent):Lv.EM S (.b::ms) (e::es)=match AZS e with
 |some id=>(match Lv.get S.bx id with|some ls=>Lv.EM { S with bx:=Lv.put S.bx id (ls.map fun _=>.t .top)} ms es|none=>Lv.EM S ms es)
 |none=>Lv.EM S ms es:=by
 obtain⟨sh,cs⟩:=e;cases sh<;>try rfl
 rcases cs with _|⟨l,_|⟨a,ls⟩⟩
 .rfl
 .cases l<;>try rfl
  rename_i id off;cases off<;>rfl
 .cases l<;>try rfl
  rename_i id off;cases off<;>rfl
theorem OH:∀(ks:List PK) (S:St) (es:List En),(EM S ks es).fg R=Lv.EM (S.fg R) (ks.map PK.md) (es.map (En.fg R))/\BS S (EM S ks es)
 | [],S,es=>by cases es<;>exact⟨rfl,BS.refl _⟩
 |k::ks,S,[]=>by exact⟨rfl,BS.refl _⟩|k::ks,S,e::es=>by
  cases k with
  |b c=>
   rw[AWC];simp only[AI,PK.md];rw[ATI,AOB];cases bp0 e with
   |none=>dsimp only;exact OH ks S es|some id=>
    simp only[Od];cases get S.bx id with
    |none=>exact OH ks S es|some ls=>
     obtain⟨a,g⟩:=OH ks (S.NN id (ls.cs.map fun _=>.t .top)) es;refine⟨?_,(BS.NN _ _ _).trans g⟩;simp only[Ap];rw[a,SX];simp[Function.comp_def,AR.fg,U.fg]
  |_=>
   have h:=OH ks S es;simpa only[EM,Lv.EM,AI,PK.md] using h
theorem AV3{S:St}{c:C}{e:En}{x:c.D}(h:AYp S c e=some x):Lv.Qe (S.fg R) .p (e.fg R)=some (.p (enc c x)):=by
 simp only[AYp]at h;split at h
 .rename_i id off;simp only[En.fg,AI,BV,AR.fg,Lv.Qe,Od];split at h
  .rename_i ls a;rw[a];split at h
   .rename_i g;simp only[Ap,kf,g,if_true];split at h
    .rename_i us j;have:=Se (R:=R) j;rw[CU]at this;rw[this,H0 h]
    .cases h
   .cases h
  .cases h
 .simp only[En.fg,AI,BV,AR.fg,Lv.Qe,H0 h]
 .cases h
theorem AV1{S:St}{c:C}{e:En}{x:c.D}(h:AYn S c e=some x):Lv.Qe (S.fg R) .b (e.fg R)=some (.b (enc c x)):=by
 simp only[AYn]at h;split at h
 .rename_i id;simp only[En.fg,AI,BV,AR.fg,Lv.Qe,Od];split at h
  .rename_i ls a;rw[a];split at h
   .rename_i us g;simp only[Ap,M5,OG g,H0 h]
   .cases h
  .cases h
 .cases h
theorem AV2{S:St}{fs:List Nat}{x:CD}{xs:List CD}{l:List (Bool×C)}{e:En}{y:po l}(hA:Al R fs (x::xs))(h:AYo S fs l e=some y):Lv.Qe (S.fg R) .v (e.fg R)=some (.f x (Qh l y)):=by
 simp only[AYo]at h;split at h
 .rename_i n caps;split at h
  .rename_i g a;split at h
   .rename_i c;subst c;have:=hA 0 x g rfl rfl;simp only[En.fg,AI,BV,AR.fg,Lv.Qe,wA h,this]
   .cases h
  .cases h
 .cases h
theorem AZi{S:Lv.St}{e:Lv.Ent}{cs:List T}(h:S.Gu e.cs=some cs):Lv.Qe S .v e=some (.v e.sh cs):=by
 obtain⟨sh,ls⟩:=e;have gen:(match S.Gu ls with|some cs=>some (V.v sh cs)|none=>none)=some (.v sh cs):=by dsimp only at h;rw[h]
 cases sh<;>try exact gen
 rcases ls with _|⟨l,_|⟨a,ls⟩⟩
 .exact gen
 .cases l<;>try exact gen
  simp[Lv.St.Gu,Lv.St.Gz]at h
 .cases l<;>exact gen
theorem AV4{S:St}{c:C}{e:En}{x:c.D}(h:AYq S c e=some x)(a:e.sh=shC c):Lv.Qe (S.fg R) .v (e.fg R)=some (.v (shC c) (enc c x)):=by
 simp only[AYq]at h;split at h
 .rename_i us g;have:=AZi (e:=e.fg R) (Se (R:=R) g);rw[this];simp only[En.fg,a,H0 h]
 .cases h
theorem Pw{S:St}:∀{ks:List PK} {fs:List Nat} {es:List En} {us:List U} {a:A ks},Al R fs (fX ks)->IL S fs ks es us=some a->Lv.IL (S.fg R) (ks.map PK.md) (es.map (En.fg R)) (us.map U.fg)=some (aVs ks a)
 | [],fs,[],us,a,_,h=>by simp[Lv.IL,aVs]| [],fs,e::es,us,a,_,h=>by simp[IL]at h|k::ks,fs,[],us,a,_,h=>by simp[IL]at h|k::ks,fs,e::es,us,a,hA,h=>by
  cases k with
  |o c=>
   simp only[IL]at h;split at h
   .rename_i q;split at h
    .rename_i x y g j;cases h;have B:=Pw (show Al R fs (fX ks) from hA) j;rw[CU]at B;simp only[AI,PK.md,Lv.IL,En.fg,Aj,B,aVs,PK.V,H0 g,Cl,Wr q]
    .cases h
   .cases h
  |m c=>
   simp only[IL]at h;split at h
   .rename_i q;split at h
    .rename_i x y g j;cases h;have B:=Pw (show Al R fs (fX ks) from hA) j;rw[CU]at B;have E:(e.cs.map (AR.fg R)).all Lv.P3=true:=by rw[Ll];simpa[Function.comp_def,ALh] using q.2.1
     simp only[AI,PK.md,Lv.IL,En.fg,Aj,B,aVs,PK.V,H0 g,Cl,Wr q.1,E];rw[AW ⟨trivial,by rw[<-Wr q.1];exact q.2.2⟩]
    .cases h
   .cases h
  |f x l=>
   simp only[IL]at h;split at h
   .rename_i y z g j;cases h;simp only[AI,PK.md,Lv.IL,AV2 hA g,Pw hA.tail j,aVs,PK.V]
   .cases h
  |v c=>
   simp only[IL]at h;split at h
   .rename_i q;split at h
    .rename_i y z g j;cases h;simp only[AI,PK.md,Lv.IL,AV4 g (Wr q),Pw (show Al R fs (fX ks) from hA) j,aVs,PK.V]
    .cases h
   .cases h
  |p c=>
   simp only[IL]at h;split at h
   .rename_i y z g j;cases h;simp only[AI,PK.md,Lv.IL,AV3 g,Pw (show Al R fs (fX ks) from hA) j,aVs,PK.V]
   .cases h
  |b c=>
   simp only[IL]at h;split at h
   .rename_i y z g j;cases h;simp only[AI,PK.md,Lv.IL,AV1 g,Pw (show Al R fs (fX ks) from hA) j,aVs,PK.V]
   .cases h
theorem AN5{S S':St}{ks:List PK}{fs:List Nat}{es:List En}{a:A ks}(hA:Al R fs (fX ks))(h:UQ S fs ks es=some (S',a)) :
 Lv.UQ (S.fg R) (ks.map PK.md) (es.map (En.fg R))=some (S'.fg R,aVs ks a)/\BS S S':=by
 unfold UQ at h;unfold Lv.UQ;split at h
 .rename_i S1 us c;obtain⟨e,g⟩:=K1 (R:=R) c;rw[ACv,e];split at h
  .rename_i B j;cases h;obtain⟨q,y⟩:=OH (R:=R) ks S1 es;simp only[Pw hA j,q];exact⟨trivial,g.trans y⟩
  .cases h
 .cases h
theorem jk(l:AR):Lv.names (AR.fg R l)=names l:=by
 cases l<;>try rfl
 rename_i n caps;simp only[AR.fg,Lv.names,names,List.filterMap_map];congr 1;funext c;cases c<;>rfl
theorem ANL(l l':AR):Lv.Rm (AR.fg R l) (AR.fg R l')=Rm l l':=by
 grind[Lv.Rm,Rm,J7,jk,WU,YL]
theorem ANM(l l':AR):Lv.P8 (AR.fg R l) (AR.fg R l')=P8 l l':=by
 grind[Lv.P8,P8,J7,jk,WU,YL]
theorem ANN(e a:En):Lv.shares (e.fg R) (a.fg R)=shares e a:=by
 simp only[Lv.shares,shares,En.fg,G4,Function.comp_def,ANL]
theorem wD:∀(ks:List PK) (prev es:List En),Lv.OI (prev.map (En.fg R)) (ks.map PK.md) (es.map (En.fg R))=OI prev ks es
 | [],prev,es=>by cases es<;>rfl
 |k::ks,prev,[]=>rfl|k::ks,prev,e::es=>by
  have a:=wD ks (e::prev) es;simp only[AI]at a ⊢;simp only[Lv.OI,OI,pn,G4,Function.comp_def,ANN,a]
end
end Y
end Lv
