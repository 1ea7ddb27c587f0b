/- The typed machine is right about the light one. -/
import Derived.Test.YtcmjfplpdjflnaaGreatLvEc
noncomputable section
set_option linter.unusedVariables false
set_option linter.unusedSimpArgs false
set_option linter.unusedSectionVars false
open List renaming all_map->Mo,any_map->HX,length_map->An,map_cons->AJ,map_drop->CY,map_nil->BY,map_take->Co
open Nat renaming eq_of_beq_eq_true->IL,lt_of_lt_of_le->BR,ne_of_beq_eq_false->Hy
open Option renaming map_some->Ar
open Option.some renaming injEq->AD
namespace Lv
open Go (IntKind BinOp UnOp)
structure B1 where
 mk ::
 Kind:Int
 Id:Int
 Aa:Int
 Bl:Int
 BC:Int
 Cs:Int
abbrev AIl(x:B1):List T:=[.int .i64 x.Kind,.int .i64 x.Id,.int .i64 x.Aa,.int .i64 x.Bl,.int .i64 x.BC,.int .i64 x.Cs]
structure Ab where
 mk ::
 AY:List Int
 CX:Int
 Room:Int
 BC:Int
 CQ:Int
 B3:Int
 Rest:Int
 Cb:Int
 C5:Int
abbrev AUk(x:Ab):List T:=[.sl 1 (x.AY.map eN),.int .i64 x.CX,.int .i64 x.Room,.int .i64 x.BC,.int .i64 x.CQ,.int .i64 x.B3,.int .i64 x.Rest,.int .i64 x.Cb,.int .i64 x.C5]
structure AQ where
 mk ::
 Id:Int
 Aa:Int
 Bl:Int
 BC:Int
 Cs:Int
 Since:Int
 Av:Int
 State:Int
 Ci:Int
 C0:Int
abbrev cL(x:AQ):List T:=[.int .i64 x.Id,.int .i64 x.Aa,.int .i64 x.Bl,.int .i64 x.BC,.int .i64 x.Cs,.int .i64 x.Since,.int .i64 x.Av,.int .i64 x.State,.int .i64 x.Ci,.int .i64 x.C0]
structure BE where
 mk ::
 Total:Int
 Dh:Int
 Eg:Int
 Ff:Int
 Fw:Int
abbrev ANz(x:BE):List T:=[.int .i64 x.Total,.int .i64 x.Dh,.int .i64 x.Eg,.int .i64 x.Ff,.int .i64 x.Fw]
structure Ai where
 mk ::
 Level:Int
 Av:Int
 Id:Int
 BC:Int
abbrev AIj(x:Ai):List T:=[.int .i64 x.Level,.int .i64 x.Av,.int .i64 x.Id,.int .i64 x.BC]
structure BO where
 mk ::
 At:Int
 Id:Int
abbrev AN0(x:BO):List T:=[.int .i64 x.At,.int .i64 x.Id]
structure Aq where
 mk ::
 Am:List (List BO)
abbrev AUm(x:Aq):List T:=[.sl 1 (x.Am.map (fun l=>[T.sl 2 (l.map AN0)]))]
structure Ae where
 mk ::
 AY:BE
 Row:List Ai
 By:Aq
abbrev cK(x:Ae):List T:=[.int .i64 x.AY.Total,.int .i64 x.AY.Dh,.int .i64 x.AY.Eg,.int .i64 x.AY.Ff,.int .i64 x.AY.Fw,.sl 4 (x.Row.map AIj),.sl 1 (x.By.Am.map (fun l=>[T.sl 2 (l.map AN0)]))]
structure AE where
 mk ::
 AS:Ab
 Now:Int
 Av:Int
 AG:List AQ
 AI:List Ae
 BA:List Int
 A4:List Int
abbrev AUj(x:AE):List T:=[.sl 1 (x.AS.AY.map eN),.int .i64 x.AS.CX,.int .i64 x.AS.Room,.int .i64 x.AS.BC,.int .i64 x.AS.CQ,.int .i64 x.AS.B3,.int .i64 x.AS.Rest,.int .i64 x.AS.Cb,.int .i64 x.AS.C5,.int .i64 x.Now,.int .i64 x.Av,.sl 10 (x.AG.map cL),.sl 7 (x.AI.map cK),.sl 1 (x.BA.map eN),.sl 1 (x.A4.map eN)]
structure B0 where
 mk ::
 Data:List UInt8
 Safe:Int
abbrev AWw(x:B0):List T:=[.str x.Data,.int .i64 x.Safe]
structure Bo where
 mk ::
 Log:B0
 FH:B0
 Odd:B0
abbrev AUl(x:Bo):List T:=[.str x.Log.Data,.int .i64 x.Log.Safe,.str x.FH.Data,.int .i64 x.FH.Safe,.str x.Odd.Data,.int .i64 x.Odd.Safe]
structure Af where
 mk ::
 Bb:AE
 A9:Bo
 Seq:Int
 Laid:List B1
abbrev ANy(x:Af):List T:=[.sl 1 (x.Bb.AS.AY.map eN),.int .i64 x.Bb.AS.CX,.int .i64 x.Bb.AS.Room,.int .i64 x.Bb.AS.BC,.int .i64 x.Bb.AS.CQ,.int .i64 x.Bb.AS.B3,.int .i64 x.Bb.AS.Rest,.int .i64 x.Bb.AS.Cb,.int .i64 x.Bb.AS.C5,.int .i64 x.Bb.Now,.int .i64 x.Bb.Av,.sl 10 (x.Bb.AG.map cL),.sl 7 (x.Bb.AI.map cK),.sl 1 (x.Bb.BA.map eN),.sl 1 (x.Bb.A4.map eN),.str x.A9.Log.Data,.int .i64 x.A9.Log.Safe,.str x.A9.FH.Data,.int .i64 x.A9.FH.Safe,.str x.A9.Odd.Data,.int .i64 x.A9.Odd.Safe,.int .i64 x.Seq,.sl 6 (x.Laid.map AIl)]
structure C6 where
 mk ::
 Code:Int
 Ids:List Int
abbrev AIk(x:C6):List T:=[.int .i64 x.Code,.sl 1 (x.Ids.map eN)]
structure Ux where
 mk ::
 DN:Af
 AXs:List B1
 AGJ:List C6
 AV1:Int
abbrev AUn(x:Ux):List T:=[.sl 1 (x.DN.Bb.AS.AY.map eN),.int .i64 x.DN.Bb.AS.CX,.int .i64 x.DN.Bb.AS.Room,.int .i64 x.DN.Bb.AS.BC,.int .i64 x.DN.Bb.AS.CQ,.int .i64 x.DN.Bb.AS.B3,.int .i64 x.DN.Bb.AS.Rest,.int .i64 x.DN.Bb.AS.Cb,.int .i64 x.DN.Bb.AS.C5,.int .i64 x.DN.Bb.Now,.int .i64 x.DN.Bb.Av,.sl 10 (x.DN.Bb.AG.map cL),.sl 7 (x.DN.Bb.AI.map cK),.sl 1 (x.DN.Bb.BA.map eN),.sl 1 (x.DN.Bb.A4.map eN),.str x.DN.A9.Log.Data,.int .i64 x.DN.A9.Log.Safe,.str x.DN.A9.FH.Data,.int .i64 x.DN.A9.FH.Safe,.str x.DN.A9.Odd.Data,.int .i64 x.DN.A9.Odd.Safe,.int .i64 x.DN.Seq,.sl 6 (x.DN.Laid.map AIl),.sl 6 (x.AXs.map AIl),.sl 2 (x.AGJ.map AIk),.int .i64 x.AV1]
structure ADT where
 mk ::
 Kind:Int
 Req:B1
 N_:Int
 AXt:List Int
abbrev AX7(x:ADT):List T:=[.int .i64 x.Kind,.int .i64 x.Req.Kind,.int .i64 x.Req.Id,.int .i64 x.Req.Aa,.int .i64 x.Req.Bl,.int .i64 x.Req.BC,.int .i64 x.Req.Cs,.int .i64 x.N_,.sl 1 (x.AXt.map eN)]
structure Bs where
 mk ::
 Seq:Int
 Body:List UInt8
 Next:Int
abbrev AUi(x:Bs):List T:=[.int .i64 x.Seq,.str x.Body,.int .i64 x.Next]
structure DX where
 mk ::
 TE:List Int
 at_:Int
 yI:Bool
abbrev AUo(x:DX):List T:=[.sl 1 (x.TE.map eN),.int .i64 x.at_,.bool x.yI]
structure AZ where
 mk ::
 b_:List UInt8
 i_:Int
 h_:Int
abbrev AUp(x:AZ):List T:=[.sl 1 (x.b_.map eBr),.int .i64 x.i_,.int .i64 x.h_]
inductive C where
 |i|u|b|s|m|z|ki(k:IntKind)|l(c:C)|st(n:Nat)|un(n:Nat)
 deriving DecidableEq
def tD:Nat->Type|0=>B1|1=>Ab|2=>AQ|3=>BE|4=>Ai|5=>BO|6=>Aq|7=>Ae|8=>AE|9=>B0|10=>Bo|11=>Af|12=>C6|13=>Ux|14=>ADT|15=>Bs|16=>DX|17=>AZ|_=>Unit
def C.D:C->Type|.i=>Int|.u=>UInt8|.b=>Bool|.s=>List UInt8|.m=>List (Int×Int)|.ki _=>Int|.z=>Unit|.l c=>List c.D|.st n=>tD n|.un _=>Unit
def AWR:Nat->Nat|0=>6|1=>9|2=>10|3=>5|4=>4|5=>2|6=>1|7=>7|8=>15|9=>2|10=>6|11=>23|12=>2|13=>26|14=>9|15=>3|16=>3|17=>3|_=>0
def C.size:C->Nat|.st n=>AWR n|.un n=>n|_=>1
inductive U where
 |top|un|int(k:IntKind)(n:Int)|u8(x:UInt8)|bool(b:Bool)|str(s:List UInt8)|nil|np|sl(c:C)(xs:List c.D)|mp(ks:List (Int×Int))
def AX8:(n:Nat)->tD n->List T|0,x=>AIl x|1,x=>AUk x|2,x=>cL x|3,x=>ANz x|4,x=>AIj x|5,x=>AN0 x|6,x=>AUm x|7,x=>cK x|8,x=>AUj x|9,x=>AWw x|10,x=>AUl x|11,x=>ANy x|12,x=>AIk x|13,x=>AUn x|14,x=>AX7 x|15,x=>AUi x|16,x=>AUo x|17,x=>AUp x|_+18,_=>[]
def enc:(c:C)->c.D->List T|.i,x=>[.int .i64 x]|.u,x=>[.int .u8 x.toNat]|.b,x=>[.bool x]|.s,x=>[.str x]|.m,x=>[.mp x]|.ki k,x=>[.int k x]|.z,_=>[.nil]|.l c,xs=>[.sl c.size (xs.map (enc c))]|.st n,x=>AX8 n x|.un n,_=>List.replicate n .un
abbrev AV7(x:B1):List U:=[.int .i64 x.Kind,.int .i64 x.Id,.int .i64 x.Aa,.int .i64 x.Bl,.int .i64 x.BC,.int .i64 x.Cs]
abbrev AGZ(x:Ab):List U:=[.sl .i x.AY,.int .i64 x.CX,.int .i64 x.Room,.int .i64 x.BC,.int .i64 x.CQ,.int .i64 x.B3,.int .i64 x.Rest,.int .i64 x.Cb,.int .i64 x.C5]
abbrev AGX(x:AQ):List U:=[.int .i64 x.Id,.int .i64 x.Aa,.int .i64 x.Bl,.int .i64 x.BC,.int .i64 x.Cs,.int .i64 x.Since,.int .i64 x.Av,.int .i64 x.State,.int .i64 x.Ci,.int .i64 x.C0]
abbrev yP(x:BE):List U:=[.int .i64 x.Total,.int .i64 x.Dh,.int .i64 x.Eg,.int .i64 x.Ff,.int .i64 x.Fw]
abbrev AGU(x:Ai):List U:=[.int .i64 x.Level,.int .i64 x.Av,.int .i64 x.Id,.int .i64 x.BC]
abbrev AV6(x:BO):List U:=[.int .i64 x.At,.int .i64 x.Id]
abbrev AGb(x:Aq):List U:=[.sl (.l (.st 5)) x.Am]
abbrev AGT(x:Ae):List U:=[.int .i64 x.AY.Total,.int .i64 x.AY.Dh,.int .i64 x.AY.Eg,.int .i64 x.AY.Ff,.int .i64 x.AY.Fw,.sl (.st 4) x.Row,.sl (.l (.st 5)) x.By.Am]
abbrev AGW(x:AE):List U:=[.sl .i x.AS.AY,.int .i64 x.AS.CX,.int .i64 x.AS.Room,.int .i64 x.AS.BC,.int .i64 x.AS.CQ,.int .i64 x.AS.B3,.int .i64 x.AS.Rest,.int .i64 x.AS.Cb,.int .i64 x.AS.C5,.int .i64 x.Now,.int .i64 x.Av,.sl (.st 2) x.AG,.sl (.st 7) x.AI,.sl .i x.BA,.sl .i x.A4]
abbrev AM7(x:B0):List U:=[.str x.Data,.int .i64 x.Safe]
abbrev AGa(x:Bo):List U:=[.str x.Log.Data,.int .i64 x.Log.Safe,.str x.FH.Data,.int .i64 x.FH.Safe,.str x.Odd.Data,.int .i64 x.Odd.Safe]
abbrev yO(x:Af):List U:=[.sl .i x.Bb.AS.AY,.int .i64 x.Bb.AS.CX,.int .i64 x.Bb.AS.Room,.int .i64 x.Bb.AS.BC,.int .i64 x.Bb.AS.CQ,.int .i64 x.Bb.AS.B3,.int .i64 x.Bb.AS.Rest,.int .i64 x.Bb.AS.Cb,.int .i64 x.Bb.AS.C5,.int .i64 x.Bb.Now,.int .i64 x.Bb.Av,.sl (.st 2) x.Bb.AG,.sl (.st 7) x.Bb.AI,.sl .i x.Bb.BA,.sl .i x.Bb.A4,.str x.A9.Log.Data,.int .i64 x.A9.Log.Safe,.str x.A9.FH.Data,.int .i64 x.A9.FH.Safe,.str x.A9.Odd.Data,.int .i64 x.A9.Odd.Safe,.int .i64 x.Seq,.sl (.st 0) x.Laid]
abbrev AGY(x:C6):List U:=[.int .i64 x.Code,.sl .i x.Ids]
abbrev AGc(x:Ux):List U:=[.sl .i x.DN.Bb.AS.AY,.int .i64 x.DN.Bb.AS.CX,.int .i64 x.DN.Bb.AS.Room,.int .i64 x.DN.Bb.AS.BC,.int .i64 x.DN.Bb.AS.CQ,.int .i64 x.DN.Bb.AS.B3,.int .i64 x.DN.Bb.AS.Rest,.int .i64 x.DN.Bb.AS.Cb,.int .i64 x.DN.Bb.AS.C5,.int .i64 x.DN.Bb.Now,.int .i64 x.DN.Bb.Av,.sl (.st 2) x.DN.Bb.AG,.sl (.st 7) x.DN.Bb.AI,.sl .i x.DN.Bb.BA,.sl .i x.DN.Bb.A4,.str x.DN.A9.Log.Data,.int .i64 x.DN.A9.Log.Safe,.str x.DN.A9.FH.Data,.int .i64 x.DN.A9.FH.Safe,.str x.DN.A9.Odd.Data,.int .i64 x.DN.A9.Odd.Safe,.int .i64 x.DN.Seq,.sl (.st 0) x.DN.Laid,.sl (.st 0) x.AXs,.sl (.st 12) x.AGJ,.int .i64 x.AV1]
abbrev AV5(x:ADT):List U:=[.int .i64 x.Kind,.int .i64 x.Req.Kind,.int .i64 x.Req.Id,.int .i64 x.Req.Aa,.int .i64 x.Req.Bl,.int .i64 x.Req.BC,.int .i64 x.Req.Cs,.int .i64 x.N_,.sl .i x.AXt]
abbrev AGV(x:Bs):List U:=[.int .i64 x.Seq,.str x.Body,.int .i64 x.Next]
abbrev AGd(x:DX):List U:=[.sl .i x.TE,.int .i64 x.at_,.bool x.yI]
abbrev AGe(x:AZ):List U:=[.sl .u x.b_,.int .i64 x.i_,.int .i64 x.h_]
def ADe:(n:Nat)->tD n->List U|0,x=>AV7 x|1,x=>AGZ x|2,x=>AGX x|3,x=>yP x|4,x=>AGU x|5,x=>AV6 x|6,x=>AGb x|7,x=>AGT x|8,x=>AGW x|9,x=>AM7 x|10,x=>AGa x|11,x=>yO x|12,x=>AGY x|13,x=>AGc x|14,x=>AV5 x|15,x=>AGV x|16,x=>AGd x|17,x=>AGe x|_+18,_=>[]
def cells:(c:C)->c.D->List U|.i,x=>[.int .i64 x]|.u,x=>[.u8 x]|.b,x=>[.bool x]|.s,x=>[.str x]|.m,x=>[.mp x]|.ki k,x=>[.int k x]|.z,_=>[.nil]|.l c,xs=>[.sl c xs]|.st n,x=>ADe n x|.un n,_=>List.replicate n .un
def toI:U->Option Int|.int .i64 n=>some n|_=>none
def toU:U->Option UInt8|.u8 x=>some x|_=>none
def AVu:U->Option Bool|.bool x=>some x|_=>none
def toN(k:IntKind):U->Option Int|.int k' x=>if k'=k then some x else none|_=>none
def toZ:U->Option Unit|.nil=>some ()|_=>none
def toM:U->Option (List (Int×Int))|.mp x=>some x|_=>none
def toS:U->Option (List UInt8)|.str x=>some x|_=>none
def toL(c:C):U->Option (List c.D)|.sl c' xs=>if h:c'=c then some (h▸xs) else none|_=>none
def gI{α:Type}(us:List U)(K:Int->List U->Option α):Option α:=match us with|u::us=>(toI u).bind fun a=>K a us | []=>none
def gS{α:Type}(us:List U)(K:List UInt8->List U->Option α):Option α:=match us with|u::us=>(toS u).bind fun a=>K a us | []=>none
def gBo{α:Type}(us:List U)(K:Bool->List U->Option α):Option α:=match us with|u::us=>(AVu u).bind fun a=>K a us | []=>none
def gL{α:Type}(c:C)(us:List U)(K:List c.D->List U->Option α):Option α:=match us with|u::us=>(toL c u).bind fun a=>K a us | []=>none
def gE{α:Type}(us:List U)(a:α):Option α:=match us with | []=>some a|_::_=>none
def ARq(us:List U):Option B1:=gI us fun a0 us=>gI us fun a1 us=>gI us fun a2 us=>gI us fun a3 us=>gI us fun a4 us=>gI us fun a5 us=>gE us (⟨a0,a1,a2,a3,a4,a5⟩:B1)
def vn(us:List U):Option Ab:=gL .i us fun a0 us=>gI us fun a1 us=>gI us fun a2 us=>gI us fun a3 us=>gI us fun a4 us=>gI us fun a5 us=>gI us fun a6 us=>gI us fun a7 us=>gI us fun a8 us=>gE us (⟨a0,a1,a2,a3,a4,a5,a6,a7,a8⟩:Ab)
def vk(us:List U):Option AQ:=gI us fun a0 us=>gI us fun a1 us=>gI us fun a2 us=>gI us fun a3 us=>gI us fun a4 us=>gI us fun a5 us=>gI us fun a6 us=>gI us fun a7 us=>gI us fun a8 us=>gI us fun a9 us=>gE us (⟨a0,a1,a2,a3,a4,a5,a6,a7,a8,a9⟩:AQ)
def lQ(us:List U):Option BE:=gI us fun a0 us=>gI us fun a1 us=>gI us fun a2 us=>gI us fun a3 us=>gI us fun a4 us=>gE us (⟨a0,a1,a2,a3,a4⟩:BE)
def vg(us:List U):Option Ai:=gI us fun a0 us=>gI us fun a1 us=>gI us fun a2 us=>gI us fun a3 us=>gE us (⟨a0,a1,a2,a3⟩:Ai)
def ARo(us:List U):Option BO:=gI us fun a0 us=>gI us fun a1 us=>gE us (⟨a0,a1⟩:BO)
def vr(us:List U):Option Aq:=gL (.l (.st 5)) us fun a0 us=>gE us (⟨a0⟩:Aq)
def vf(us:List U):Option Ae:=gI us fun a0 us=>gI us fun a1 us=>gI us fun a2 us=>gI us fun a3 us=>gI us fun a4 us=>gL (.st 4) us fun a5 us=>gL (.l (.st 5)) us fun a6 us=>gE us (⟨⟨a0,a1,a2,a3,a4⟩,a5,⟨a6⟩⟩:Ae)
def vj(us:List U):Option AE:=gL .i us fun a0 us=>gI us fun a1 us=>gI us fun a2 us=>gI us fun a3 us=>gI us fun a4 us=>gI us fun a5 us=>gI us fun a6 us=>gI us fun a7 us=>gI us fun a8 us=>gI us fun a9 us=>gI us fun a10 us=>gL (.st 2) us fun a11 us=>gL (.st 7) us fun a12 us=>gL .i us fun a13 us=>gL .i us fun a14 us=>gE us (⟨⟨a0,a1,a2,a3,a4,a5,a6,a7,a8⟩,a9,a10,a11,a12,a13,a14⟩:AE)
def AFJ(us:List U):Option B0:=gS us fun a0 us=>gI us fun a1 us=>gE us (⟨a0,a1⟩:B0)
def vq(us:List U):Option Bo:=gS us fun a0 us=>gI us fun a1 us=>gS us fun a2 us=>gI us fun a3 us=>gS us fun a4 us=>gI us fun a5 us=>gE us (⟨⟨a0,a1⟩,⟨a2,a3⟩,⟨a4,a5⟩⟩:Bo)
def lP(us:List U):Option Af:=gL .i us fun a0 us=>gI us fun a1 us=>gI us fun a2 us=>gI us fun a3 us=>gI us fun a4 us=>gI us fun a5 us=>gI us fun a6 us=>gI us fun a7 us=>gI us fun a8 us=>gI us fun a9 us=>gI us fun a10 us=>gL (.st 2) us fun a11 us=>gL (.st 7) us fun a12 us=>gL .i us fun a13 us=>gL .i us fun a14 us=>gS us fun a15 us=>gI us fun a16 us=>gS us fun a17 us=>gI us fun a18 us=>gS us fun a19 us=>gI us fun a20 us=>gI us fun a21 us=>gL (.st 0) us fun a22 us=>gE us (⟨⟨⟨a0,a1,a2,a3,a4,a5,a6,a7,a8⟩,a9,a10,a11,a12,a13,a14⟩,⟨⟨a15,a16⟩,⟨a17,a18⟩,⟨a19,a20⟩⟩,a21,a22⟩:Af)
def vm(us:List U):Option C6:=gI us fun a0 us=>gL .i us fun a1 us=>gE us (⟨a0,a1⟩:C6)
def vt(us:List U):Option Ux:=gL .i us fun a0 us=>gI us fun a1 us=>gI us fun a2 us=>gI us fun a3 us=>gI us fun a4 us=>gI us fun a5 us=>gI us fun a6 us=>gI us fun a7 us=>gI us fun a8 us=>gI us fun a9 us=>gI us fun a10 us=>gL (.st 2) us fun a11 us=>gL (.st 7) us fun a12 us=>gL .i us fun a13 us=>gL .i us fun a14 us=>gS us fun a15 us=>gI us fun a16 us=>gS us fun a17 us=>gI us fun a18 us=>gS us fun a19 us=>gI us fun a20 us=>gI us fun a21 us=>gL (.st 0) us fun a22 us=>gL (.st 0) us fun a23 us=>gL (.st 12) us fun a24 us=>gI us fun a25 us=>gE us (⟨⟨⟨⟨a0,a1,a2,a3,a4,a5,a6,a7,a8⟩,a9,a10,a11,a12,a13,a14⟩,⟨⟨a15,a16⟩,⟨a17,a18⟩,⟨a19,a20⟩⟩,a21,a22⟩,a23,a24,a25⟩:Ux)
def ARm(us:List U):Option ADT:=gI us fun a0 us=>gI us fun a1 us=>gI us fun a2 us=>gI us fun a3 us=>gI us fun a4 us=>gI us fun a5 us=>gI us fun a6 us=>gI us fun a7 us=>gL .i us fun a8 us=>gE us (⟨a0,⟨a1,a2,a3,a4,a5,a6⟩,a7,a8⟩:ADT)
def vi(us:List U):Option Bs:=gI us fun a0 us=>gS us fun a1 us=>gI us fun a2 us=>gE us (⟨a0,a1,a2⟩:Bs)
def vu(us:List U):Option DX:=gL .i us fun a0 us=>gI us fun a1 us=>gBo us fun a2 us=>gE us (⟨a0,a1,a2⟩:DX)
def vz(us:List U):Option AZ:=gL .u us fun a0 us=>gI us fun a1 us=>gI us fun a2 us=>gE us (⟨a0,a1,a2⟩:AZ)
def ofS:(n:Nat)->List U->Option (tD n)|0,us=>ARq us|1,us=>vn us|2,us=>vk us|3,us=>lQ us|4,us=>vg us|5,us=>ARo us|6,us=>vr us|7,us=>vf us|8,us=>vj us|9,us=>AFJ us|10,us=>vq us|11,us=>lP us|12,us=>vm us|13,us=>vt us|14,us=>ARm us|15,us=>vi us|16,us=>vu us|17,us=>vz us|_+18,_=>none
def M5:Nat->List U->Option Unit|0,[]=>some ()|n+1,.un::us=>M5 n us|_,_=>none
def of1{α:Type}(us:List U)(f:U->Option α):Option α:=match us with | [u]=>f u|_=>none
def ofC:(c:C)->List U->Option c.D|.i,us=>of1 us toI|.u,us=>of1 us toU|.b,us=>of1 us AVu|.s,us=>of1 us toS|.m,us=>of1 us toM|.ki k,us=>of1 us (toN k)|.z,us=>of1 us toZ|.l c,us=>of1 us (toL c)|.st n,us=>ofS n us|.un n,us=>M5 n us
def AWX:(n:Nat)->Option (tD n)|0=>some (⟨0,0,0,0,0,0⟩:B1)|1=>some (⟨[],0,0,0,0,0,0,0,0⟩:Ab)|2=>some (⟨0,0,0,0,0,0,0,0,0,0⟩:AQ)|3=>some (⟨0,0,0,0,0⟩:BE)|4=>some (⟨0,0,0,0⟩:Ai)|5=>some (⟨0,0⟩:BO)|6=>some (⟨[]⟩:Aq)|7=>some (⟨⟨0,0,0,0,0⟩,[],⟨[]⟩⟩:Ae)|8=>some (⟨⟨[],0,0,0,0,0,0,0,0⟩,0,0,[],[],[],[]⟩:AE)|9=>some (⟨[],0⟩:B0)|10=>some (⟨⟨[],0⟩,⟨[],0⟩,⟨[],0⟩⟩:Bo)|11=>some (⟨⟨⟨[],0,0,0,0,0,0,0,0⟩,0,0,[],[],[],[]⟩,⟨⟨[],0⟩,⟨[],0⟩,⟨[],0⟩⟩,0,[]⟩:Af)|12=>some (⟨0,[]⟩:C6)|13=>some (⟨⟨⟨⟨[],0,0,0,0,0,0,0,0⟩,0,0,[],[],[],[]⟩,⟨⟨[],0⟩,⟨[],0⟩,⟨[],0⟩⟩,0,[]⟩,[],[],0⟩:Ux)|14=>some (⟨0,⟨0,0,0,0,0,0⟩,0,[]⟩:ADT)|15=>some (⟨0,[],0⟩:Bs)|16=>some (⟨[],0,false⟩:DX)|17=>some (⟨[],0,0⟩:AZ)|_+18=>none
def ADR:(c:C)->Option c.D|.i=>some (0:Int)|.u=>some (0:UInt8)|.b=>some false|.s=>some ([]:List UInt8)|.m=>some ([]:List (Int×Int))|.ki _=>some (0:Int)|.z=>none|.l c=>some ([]:List c.D)|.st n=>AWX n|.un _=>none
def U.fg:U->T|.top=>.top|.un=>.un|.int k n=>.int k n|.u8 x=>.int .u8 x.toNat|.bool b=>.bool b|.str s=>.str s|.nil=>.nil|.np=>.np|.mp ks=>.mp ks|.sl c xs=>.sl c.size (xs.map (enc c))
def Tu:List C->Type| []=>Unit| [c]=>c.D|c::c'::cs=>c.D×Tu (c'::cs)
def Qm:(cs:List C)->Tu cs->List (List T)| [],_=>[]| [c],x=>[enc c x]|c::c'::cs,x=>enc c x.1::Qm (c'::cs) x.2
def ofT:(cs:List C)->List U->Option (Tu cs)
 | [],us=>match us with | []=>some ()|_=>none
 | [c],us=>ofC c us|c::c'::cs,us=>match ofC c (us.take c.size),ofT (c'::cs) (us.drop c.size) with|some a,some b=>some (a,b)|_,_=>none
inductive PK where
 |v(c:C)|p(c:C)|b(c:C)|o(c:C)|m(c:C)|f(x:CI)(caps:List (Bool×C))
def PK.md:PK->Md|.v _=>.v|.p _=>.p|.b _=>.b|.o _=>.o|.m _=>.m|.f _ _=>.v
def shC:C->Sh|.st _=>.agg|.un _=>.agg|_=>.one
def wC:C->Option Nat|.st n=>some (AWR n)|.un n=>some n|_=>none
def re:List (Bool×C)->Type| []=>Unit|(_,c)::r=>c.D×re r
def PK.D:PK->Type|.v c=>c.D|.p c=>c.D|.b c=>c.D|.o c=>c.D|.m c=>c.D|.f _ caps=>re caps
def A:List PK->Type| []=>Unit|k::ks=>k.D×A ks
def SC:(l:List (Bool×C))->re l->List V| [],_=>[]|(false,c)::r,x=>.v .one (enc c x.1)::SC r x.2|(true,c)::r,x=>.p (enc c x.1)::SC r x.2
def PK.V:(k:PK)->k.D->V|.v c,x=>.v (shC c) (enc c x)|.p c,x=>.p (enc c x)|.b c,x=>.b (enc c x)|.o c,x=>.o (shC c) (enc c x)|.m c,x=>.m (shC c) (enc c x)|.f x caps,y=>.f x (SC caps y)
def aVs:(ks:List PK)->A ks->List V| [],_=>[]|k::ks,x=>k.V x.1::aVs ks x.2
def La:List PK->List C| []=>[]|.b c::r=>c::La r|.m c::r=>c::La r|_::r=>La r
def fX:List PK->List CI| []=>[]|.f x _::r=>x::fX r|_::r=>fX r
inductive RK where
 |ret(cs:List C)|ptr(k:Nat)(c:C)|vw(k:Nat)(c:C)
def RK.cs:RK->List C|.ret cs=>cs|.ptr _ c=>[c]|.vw _ c=>[.l c]
def RK.sh:RK->Sh|.ret cs=>ACv (cs.map wC)|.ptr k _=>.ptr k|.vw k _=>.vw k
structure GF where
 x:CI
 ps:List PK
 rk:RK
 d:A ps->Option (Tu (rk.cs++La ps))
 ms:Ef x=ps.map PK.md
 ok:∀a r,d a=some r->Ji x (aVs ps a) rk.sh ((Qm _ r).take rk.cs.length).flatten ((Qm _ r).drop rk.cs.length)
structure Evs where
 bd:(α γ:Type)->Option α->(α->Option γ)->Option γ
 lp:(σ γ:Type)->((σ->Option γ)->σ->Option γ)->Nat->σ->Option γ
 jn:(σ γ:Type)->(σ->Option γ)->σ->Option γ
 eq:(α γ:Type)->α->α->Option γ->Option γ
 al:(γ:Type)->(Option γ->Option γ)->Option γ->Option γ
 ox:(γ:Type)->Option γ->Option γ->Option γ
def AJE{σ γ:Type}(F:(σ->Option γ)->σ->Option γ):Nat->σ->Option γ|0,_=>none|n+1,x=>F (AJE F n) x
open Classical in
def Evs.std:Evs where
 bd _ _ o f:=o.bind f
 lp _ _ F n x:=AJE F n x
 jn _ _ F x:=F x
 eq _ _ a b x:=if a=b then x else none
 al _ F x:=F x
 ox _ x y:=match x with|some r=>some r|none=>y
def evX:Evs:=Classical.choose (p:=fun E=>E=Evs.std) ⟨_,rfl⟩
theorem Oa:evX=Evs.std:=Classical.choose_spec (p:=fun E=>E=Evs.std) ⟨_,rfl⟩
section
def orX{γ:Type}(x y:Option γ):Option γ:=evX.ox γ x y
def br{γ:Type}(b:Bool)(x y:Option γ):Option γ:=if b=true then x else y
def gd{γ:Type}(p:Prop)[i:Decidable p](x:Option γ):Option γ:=if p then x else none
def bd{α γ:Type}(o:Option α)(f:α->Option γ):Option γ:=evX.bd α γ o f
def BB{σ γ:Type}(F:(σ->Option γ)->σ->Option γ)(n:Nat)(x:σ):Option γ:=evX.lp σ γ F n x
def jn{σ γ:Type}(F:σ->Option γ)(x:σ):Option γ:=evX.jn σ γ F x
def eqv{α γ:Type}(a b:α)(x:Option γ):Option γ:=evX.eq α γ a b x
def alt{γ:Type}(F:Option γ->Option γ)(x:Option γ):Option γ:=evX.al γ F x
end
theorem AWO{γ:Type}(y:Option γ):orX none y=y:=by unfold orX;rw[Oa];rfl
theorem AWP{γ:Type}(r:γ)(y:Option γ):orX (some r) y=some r:=by unfold orX;rw[Oa];rfl
theorem AXT{γ:Type}{x y:Option γ}{r:γ}(h:orX x y=some r):x=some r\/y=some r:=by
 cases x with
 |none=>rw[AWO]at h;exact .inr h|some q=>rw[AWP]at h;exact .inl h
theorem AWl{γ:Type}(b:Bool)(x y:Option γ):br b x y=if b=true then x else y:=rfl
theorem AOC{γ:Type}(p:Prop) [Decidable p] (x:Option γ):gd p x=if p then x else none:=rfl
theorem ADa{α γ:Type}(o:Option α)(f:α->Option γ):bd o f=o.bind f:=by unfold bd;rw[Oa];rfl
theorem ART{σ γ:Type}(F:σ->Option γ)(x:σ):jn F x=F x:=by unfold jn;rw[Oa];rfl
theorem AGM{γ:Type}(F:Option γ->Option γ)(x:Option γ):alt F x=F x:=by unfold alt;rw[Oa];rfl
open Classical in
theorem AIq{α γ:Type}(a b:α)(x:Option γ):eqv a b x=if a=b then x else none:=by unfold eqv;rw[Oa];rfl
theorem Cm{α γ:Type}(a:α)(x:Option γ):eqv a a x=x:=by rw[AIq,AX rfl]
theorem So{α γ:Type}{a b:α}{x:Option γ}{r:γ}(h:eqv a b x=some r):a=b/\x=some r:=by
 grind[AIq]
theorem AJG{σ γ:Type}(F:(σ->Option γ)->σ->Option γ)(x:σ):BB F 0 x=none:=by unfold BB;rw[Oa];rfl
theorem Dy{σ γ:Type}(F:(σ->Option γ)->σ->Option γ)(n:Nat)(x:σ):BB F (n+1) x=F (BB F n) x:=by
 have:∀m y,BB F m y=AJE F m y:=fun m y=>by unfold BB;rw[Oa];rfl
 rw[this];show F (AJE F n) x=_;congr 1;funext y;exact(this n y).symm
inductive Cap where
 |t(x:U)|vw(k:Nat)(c:C)(xs:List c.D)|vp(k:Nat)(cs:List U)|bp(id off:Nat)
namespace Y
def mem(k:Nat):List Nat->Bool
 | []=>false|x::xs=>match Nat.beq k x with|true=>true|false=>mem k xs
def CD.is:CD->CD->Bool
 |.tmp s c,.tmp s' c'=>match Nat.beq s s' with|true=>Nat.beq c c'|false=>false
 |.cell s c,.cell s' c'=>match Nat.beq s s' with|true=>Nat.beq c c'|false=>false
 |_,_=>false
def isR(o:Option CD)(r:CD):Bool:=match o with|some r'=>CD.is r' r|none=>false
def isN(o:Option Nat)(r:Nat):Bool:=match o with|some r'=>Nat.beq r' r|none=>false
def get{α:Type}:List (Nat×α)->Nat->Option α
 | [],_=>none|(k,a)::r,s=>match Nat.beq k s with|true=>some a|false=>get r s
def put{α:Type}:List (Nat×α)->Nat->α->List (Nat×α)
 | [],s,a=>[(s,a)]|(k,b)::r,s,a=>match Nat.beq s k with
  |true=>(s,a)::r|false=>match Nat.ble s k with|true=>(s,a)::(k,b)::r|false=>(k,b)::put r s a
def Jo{α:Type}(ks:List Nat):List (Nat×α)->List (Nat×α)
 | []=>[]|(k,b)::r=>match mem k ks with|true=>Jo ks r|false=>(k,b)::Jo ks r
def Gg{α:Type}(ks:List Nat):List (Nat×α)->List (Nat×α)
 | []=>[]|(k,b)::r=>match mem k ks with|true=>(k,b)::Gg ks r|false=>Gg ks r
inductive AT where
 |t(x:U)|und|ow(x:U)|owh(c:C)(xs:List c.D)(hs:List (Nat×Nat))|al(r:CD)(sub:Option (Nat×Nat))|ep(r:CD)(i:Int)(j:Nat)|vw(s:Src)(c:C)(xs:List c.D)|vp(s:Src)(cs:List U)|bp(id off:Nat)|fn(n:Nat)(caps:List Cap)
structure Ent where
 sh:Sh
 cs:List AT
 ver:Nat
structure Bx where
 cs:List AT
 ver:Nat
structure St where
 tm:List (Nat×Ent)
 bx:List (Nat×Bx)
 pin:List Nat
 nv:Nat
section
variable{γ:Type}
def DP(n:Nat)(K:Nat->γ):γ:=match n with|0=>K 0|k+1=>K (k+1)
def _root_.Lv.U.Fu(x:U)(K:U->γ):γ:=
 match x with
 |.top=>K .top|.int k n=>K (.int k n)|.u8 x=>K (.u8 x)|.bool b=>K (.bool b)|.str s=>K (.str s)|.nil=>K .nil|.np=>K .np|.un=>K .un|.sl c xs=>K (.sl c xs)|.mp ks=>K (.mp ks)
def cR:List U->(List U->γ)->γ| [],K=>K []|x::xs,K=>x.Fu fun x=>cR xs fun xs=>K (x::xs)
def jx(r:CD)(K:CD->γ):γ:=
 match r with
 |.tmp s c=>DP s fun s=>DP c fun c=>K (.tmp s c)|.cell s c=>DP s fun s=>DP c fun c=>K (.cell s c)
def Sq(s:Src)(K:Src->γ):γ:=
 match s with
 |.own r p=>jx r fun r=>match p with|none=>K (.own r none)|some (i,j)=>DP j fun j=>K (.own r (some (i,j)))
 |.old k=>DP k fun k=>K (.old k)
def AT.Fu(l:AT)(K:AT->γ):γ:=
 match l with
 |.t x=>x.Fu fun x=>K (.t x)|.und=>K .und|.ow x=>x.Fu fun x=>K (.ow x)|.owh c xs hs=>K (.owh c xs hs)|.al r sub=>jx r fun r=>match sub with|none=>K (.al r none)|some (a,b)=>K (.al r (some (a,b)))
 |.ep r i j=>jx r fun r=>DP j fun j=>K (.ep r i j)|.vw s c xs=>Sq s fun s=>K (.vw s c xs)|.vp s cs=>Sq s fun s=>cR cs fun cs=>K (.vp s cs)|.bp id off=>DP id fun id=>DP off fun off=>K (.bp id off)|.fn n caps=>K (.fn n caps)
def Tw:List AT->(List AT->γ)->γ| [],K=>K []|x::xs,K=>x.Fu fun x=>Tw xs fun xs=>K (x::xs)
def Tx:List (Option Nat)->(List (Option Nat)->γ)->γ| [],K=>K []|none::xs,K=>Tx xs fun xs=>K (none::xs)|some n::xs,K=>DP n fun n=>Tx xs fun xs=>K (some n::xs)
def cQ(s:Sh)(K:Sh->γ):γ:=
 match s with
 |.one=>K .one|.agg=>K .agg|.tup ns=>Tx ns fun ns=>K (.tup ns)|.ptr k=>K (.ptr k)|.vw k=>K (.vw k)
def tP:List (Nat×Ent)->(List (Nat×Ent)->γ)->γ| [],K=>K []|(k,⟨sh,cs,v⟩)::xs,K=>cQ sh fun sh=>Tw cs fun cs=>DP v fun v=>tP xs fun xs=>K ((k,⟨sh,cs,v⟩)::xs)
def tO:List (Nat×Bx)->(List (Nat×Bx)->γ)->γ| [],K=>K []|(k,⟨cs,v⟩)::xs,K=>Tw cs fun cs=>DP v fun v=>tO xs fun xs=>K ((k,⟨cs,v⟩)::xs)
def tQ:List Nat->(List Nat->γ)->γ| [],K=>K []|x::xs,K=>tQ xs fun xs=>K (x::xs)
def St.Fu(S:St)(K:St->γ):γ:=
 match S with
 |⟨tm,bx,pin,nv⟩=>tP tm fun tm=>tO bx fun bx=>tQ pin fun pin=>DP nv fun nv=>K ⟨tm,bx,pin,nv⟩
end
structure En where
 sh:Sh
 cs:List AT
def AT.Bz:AT->Option CD|.al r _=>some r|.ep r _ _=>some r|.vw (.own r _) _ _=>some r|.vp (.own r _) _=>some r|_=>none
def _root_.Lv.Cap.Lw:Cap->Option Nat|.bp id _=>some id|_=>none
def AT.Lw:AT->Option Nat|.bp id _=>some id|.al (.cell id _) _=>some id|.ep (.cell id _) _ _=>some id|.vw (.own (.cell id _) _) _ _=>some id|.vp (.own (.cell id _) _) _=>some id|_=>none
def AT.AWn:AT->Option Cap|.t x=>some (.t x)|.vw (.old k) c xs=>some (.vw k c xs)|.vp (.old k) cs=>some (.vp k cs)|.bp id off=>some (.bp id off)|_=>none
def _root_.Lv.Cap.leaf:Cap->AT|.t x=>.t x|.vw k c xs=>.vw (.old k) c xs|.vp k cs=>.vp (.old k) cs|.bp id off=>.bp id off
def names:AT->List Nat|.bp id _=>[id]|.fn _ caps=>caps.filterMap Lv.Cap.Lw|_=>[]
def ES(q:AT->Bool):List AT->List AT| []=>[]|l::ls=>(if q l=true then .t .top else l)::ES q ls
def LJ(v:Nat)(q:AT->Bool):List (Nat×Ent)->List (Nat×Ent)| []=>[]|(k,e)::r=>(k,if e.cs.any q=true then ⟨e.sh,ES q e.cs,v⟩ else e)::LJ v q r
def LI(v:Nat)(q:AT->Bool):List (Nat×Bx)->List (Nat×Bx)| []=>[]|(k,e)::r=>(k,if e.cs.any q=true then ⟨ES q e.cs,v⟩ else e)::LI v q r
def St.kill(S:St)(q:AT->Bool):St:=⟨LJ S.nv q S.tm,LI S.nv q S.bx,S.pin,S.nv+1⟩
def St.KD(S:St)(d:Nat)(sh:Sh)(cs:List AT):St:=⟨put S.tm d ⟨sh,cs,S.nv⟩,S.bx,S.pin,S.nv+1⟩
def St.ON(S:St)(d:Nat)(cs:List AT):St:=⟨S.tm,put S.bx d ⟨cs,S.nv⟩,S.pin,S.nv+1⟩
def LZ(r:CD)(l:AT):Bool:=isR l.Bz r
def FW(r:CD):AT->Bool|.vw (.own r' _) _ _=>CD.is r' r|.vp (.own r' _) _=>CD.is r' r|_=>false
def E1(d:Nat)(l:AT):Bool:=match l.Bz with|some (.tmp s _)=>Nat.beq s d|_=>false
def Fp(d:Nat):AT->Bool|.fn _ caps=>caps.any fun l=>isN l.Lw d|l=>isN l.Lw d
def LY(ks:List Nat):AT->Bool
 |.fn _ caps=>caps.any fun l=>match l.Lw with|some d=>!mem d ks|none=>false
 |l=>match l.Lw with|some d=>!mem d ks|none=>false
def Ij(ks:List Nat)(l:AT):Bool:=
 (match l.Bz with|some (.tmp s _)=>!mem s ks|_=>false)||LY ks l
def ZR(ks:List Nat)(l:AT):Bool:=match l.Bz with|some (.tmp s _)=>mem s ks|_=>false
def St.IS(S:St)(ks:List Nat):St:=⟨LJ S.nv (ZR ks) (Jo ks S.tm),LI S.nv (ZR ks) S.bx,S.pin,S.nv+1⟩
def St.clean(S:St)(ks:List Nat):St:=⟨LJ S.nv (Ij ks) (Gg ks S.tm),LI S.nv (Ij ks) (Gg ks S.bx),S.pin,S.nv+1⟩
def AT.refs(l:AT):List Nat:=(match l.Bz with|some (.tmp s _)=>[s]|some (.cell b _)=>[b]|none=>[])++names l
def ATM(ks:List Nat):List (Nat×Ent)->List Nat
 | []=>[]|(k,e)::r=>match mem k ks with|true=>e.cs.flatMap AT.refs++ATM ks r|false=>ATM ks r
def ATL(ks:List Nat):List (Nat×Bx)->List Nat
 | []=>[]|(k,e)::r=>match mem k ks with|true=>e.cs.flatMap AT.refs++ATL ks r|false=>ATL ks r
def St.clo(S:St):Nat->List Nat->List Nat
 |0,ks=>ks|n+1,ks=>match (ATM ks S.tm++ATL ks S.bx).filter (fun k=>!mem k ks) with| []=>ks|more=>S.clo n (ks++more)
def St.sK(S:St)(ks:List Nat):St:=S.clean (S.clo 6 (S.pin++ks))
def St.at(S:St):CD->Option AT
 |.tmp s c=>match get S.tm s with|some e=>e.cs[c]?|none=>none
 |.cell b c=>match get S.bx b with|some ls=>ls.cs[c]?|none=>none
def St.Bi(S:St)(r:CD)(l:AT):St:=
 match r with
 |.tmp s c=>match get S.tm s with|some e=>S.KD s e.sh (e.cs.set c l)|none=>S
 |.cell b c=>match get S.bx b with|some ls=>S.ON b (ls.cs.set c l)|none=>S
inductive Rw where
 |nl|of(c:C)(xs:List c.D)
def content:U->Option Rw|.nil=>some .nl|.sl c xs=>some (.of c xs)|_=>none
def mf{α:Type}(sub:Option (Nat×Nat))(xs:List α):List α:=
 match sub with
 |none=>xs|some (lo,n)=>(xs.drop lo).take n
def Rw.sub(sub:Option (Nat×Nat)):Rw->Rw|.nl=>.nl|.of c xs=>.of c (mf sub xs)
def Rw.as(c:C):Rw->Option (List c.D)|.nl=>some []|.of c' xs=>if h:c'=c then some (h▸xs) else none
def AF9(sub:Option (Nat×Nat)):U->U|.sl c xs=>.sl c (mf sub xs)|x=>x
def St.elems(S:St):AT->Option Rw
 |.al r sub=>match S.at r with
  |some (.ow x)=>match content x with|some w=>some (w.sub sub)|none=>none
  |_=>none
 |.vw _ c xs=>some (.of c xs)|.t .nil=>some .nl|_=>none
def AT.ali(s c:Nat):AT->AT|.ow _=>.al (.tmp s c) none|.owh _ _ _=>.al (.tmp s c) none|l=>l
def R9(s:Nat):Nat->List AT->List AT|_,[]=>[]|c,l::ls=>l.ali s c::R9 s (c+1) ls
def qN:U->AT|.sl c xs=>.vw (.old 0) c xs|x=>.t x
inductive YO where
 |tmp(t:Nat)|k(x:U)|fn(n:Nat)
def St.rd(S:St):YO->Option En
 |.tmp s=>match get S.tm s with|some e=>some ⟨e.sh,R9 s 0 e.cs⟩|none=>none
 |.k x=>some ⟨.one,[qN x]⟩|.fn n=>some ⟨.one,[.fn n []]⟩
def St.rds(S:St):List YO->Option (List En)
 | []=>some []|x::xs=>match S.rd x,S.rds xs with|some e,some es=>some (e::es)|_,_=>none
def St.D9(S:St)(d:Nat)(sh:Sh)(cs:List AT):Option St:=
 match mem d S.pin with|true=>none|false=>match get S.tm d with|none=>some (S.KD d sh cs)|some _=>some ((S.kill (E1 d)).KD d sh (ES (E1 d) cs))
def TR(l l':AT):Bool:=
 (match l.Bz with|some r=>isR l'.Bz r|none=>false)||(names l).any (fun id=>Fp id l')||(names l').any (fun id=>Fp id l)
def RN(l l':AT):Bool:=
 (match l.Bz with|some r=>isR l'.Bz r|none=>false)||(names l).any (fun id=>Fp id l')
def vS:AT->Bool|.al _ _=>true|_=>false
def OK:List AT->Bool
 | []=>true|l::ls=>(ls.all fun l'=>!((vS l||vS l')&&(match l.Bz with|some r=>isR l'.Bz r|none=>l'.Bz.isNone)))&&OK ls
def St.out(S:St)(r:CD):St:=(S.Bi r (.t .top)).kill (LZ r)
def St.nl0(S:St)(r:CD)(c:C):AT:=match r with|.cell id _=>(match mem id S.pin with|true=>.vw (.old id) c []|false=>.ow (.sl c []))|.tmp _ _=>.ow (.sl c [])
def St.turn(S:St)(r:CD):St:=match S.at r with
 |some (.al r' none)=>match S.at r' with|some (.ow x)=>((S.out r').Bi r (.ow x)).Bi r' (.al r none)|some (.owh c xs hs)=>((S.out r').Bi r (.owh c xs hs)).Bi r' (.al r none)|_=>S
 |_=>S
def St.Zj(S:St)(r:CD)(c:C):St:=match Nat.beq c.size 0 with
 |true=>S.turn r|false=>match S.at r with|some (.t .nil)=>S.Bi r (S.nl0 r c)|_=>S
def St.RA(S:St):List (CD×C)->St| []=>S|(r,c)::ns=>St.RA (S.Zj r c) ns
def Jw:St->List AT->Option (St×List AT)
 |S,[]=>some (S,[])|S,l::ls=>match l with
  |.al r sub=>match S.at r with
   |some (.ow x)=>match Jw (S.out r) ls with|some (S',ls')=>some (S',.ow (AF9 sub x)::ls')|none=>none
   |_=>none
  |l=>match Jw S ls with|some (S',ls')=>some (S',l::ls')|none=>none
def LM(S:St)(ls:List AT):Option (St×List AT):=if OK ls=true then Jw S ls else none
def sG(S:St)(x:YO)(ls:List AT):Option (St×List AT):=match x with|.tmp s=>(match mem s S.pin with|true=>some (S,ls)|false=>LM S ls)|_=>LM S ls
def Ro:U->Bool|.top=>true|_=>false
def ZV:U->Bool|.top=>true|.un=>true|_=>false
def St.pull(S:St)(r:CD)(i j:Nat):Option St:=
 match S.at r with
 |some (.ow (.sl c xs))=>some ((S.Bi r (.owh c xs [(i,j)])).kill (FW r))|some (.owh c xs hs)=>some ((S.Bi r (.owh c xs (hs++[(i,j)]))).kill (FW r))|_=>none
def onR(r:CD):List AT->Bool| []=>false|l::ls=>isR l.Bz r||onR r ls
def Di:St->List AT->Option (St×List U)
 |S,[]=>some (S,[])|S,l::ls=>match l with
  |.t x=>if Ro x=true then none else match Di S ls with|some (S',cs)=>some (S',x::cs)|none=>none
  |.al r sub=>match S.at r with
   |some (.ow x)=>match Di (S.out r) ls with|some (S',cs)=>some (S',AF9 sub x::cs)|none=>none
   |_=>none
  |.vw (.own r p) c xs=>match p with
   |none=>match S.at r with
    |some (.ow _)=>match Di (S.out r) ls with|some (S',cs)=>some (S',.sl c xs::cs)|none=>none
    |_=>none
   |some (i,j)=>if onR r ls=true then none else match S.pull r i j with
    |some S1=>match Di S1 ls with|some (S',cs)=>some (S',.sl c xs::cs)|none=>none
    |none=>none
  |_=>none
def St.HR(S:St):AT->Option U
 |.t x=>some x|.al r sub=>match S.at r with|some (.ow x)=>some (AF9 sub x)|_=>none
 |.vw _ c xs=>some (.sl c xs)|.ow x=>some x|_=>none
def St.HN(S:St):List AT->Option (List U)
 | []=>some []|l::ls=>match S.HR l,S.HN ls with|some x,some xs=>some (x::xs)|_,_=>none
def PY(k:Nat):AT->Option U|.t x=>some x|.vw (.old k') c xs=>if k'=k then some (.sl c xs) else none|_=>none
def Fl(k:Nat):List AT->Option (List U)
 | []=>some []|l::ls=>match PY k l,Fl k ls with|some x,some xs=>some (x::xs)|_,_=>none
def DW:List AT->Nat| []=>0|.vw (.old k) _ _::_=>k|_::ls=>DW ls
def EN(k:Nat):U->AT|.sl c xs=>.vw (.old k) c xs|.mp _=>.t .top|x=>.t x
def Jt:U->AT|.sl c xs=>.ow (.sl c xs)|.mp ks=>.ow (.mp ks)|.nil=>.ow .nil|x=>.t x
def Kq(s:Src):U->AT|.sl c xs=>.vw s c xs|.mp _=>.t .top|x=>.t x
def On:List AT->Bool| []=>true|l::ls=>l.Bz.isNone&&On ls
def RF:AT->Bool|.t _=>true|.al _ none=>true|.vw (.own _ (some _)) _ _=>true|_=>false
def AWo(S:St):Bool->Cap->Option (List U)
 |false,.t x=>some [x]|false,.vw _ c xs=>some [.sl c xs]|true,.bp id off=>match get S.bx id with|some ls=>if On ls.cs=true then S.HN (ls.cs.drop off) else none|none=>none
 |true,.vp _ cs=>some cs|_,_=>none
def AGi(S:St):(l:List (Bool×C))->List Cap->Option (re l)
 | [],[]=>some ()|(m,c)::r,l::ls=>match AWo S m l with
  |some us=>match ofC c us,AGi S r ls with|some x,some y=>some (x,y)|_,_=>none
  |none=>none
 |_,_=>none
section
variable(R:List GF)
def AWf(S:St)(c:C)(e:En):Option c.D:=match S.HN e.cs with|some us=>ofC c us|none=>none
def AWd(S:St)(fs:List Nat)(l:List (Bool×C))(e:En):Option (re l):=
 match e with
 |⟨.one,[.fn n caps]⟩=>match fs with|n'::_=>if n'=n then AGi S l caps else none| []=>none
 |_=>none
def AWe(S:St)(c:C)(e:En):Option c.D:=
 match e with
 |⟨.one,[.bp id off]⟩=>match get S.bx id with
  |some ls=>if On ls.cs=true then match S.HN (ls.cs.drop off) with|some us=>ofC c us|none=>none else none
  |none=>none
 |⟨.one,[.vp _ cs]⟩=>ofC c cs|_=>none
def AWc(S:St)(c:C)(e:En):Option c.D:=
 match e with
 |⟨.one,[.bp id 0]⟩=>match get S.bx id with
  |some ls=>match Fl (DW ls.cs) ls.cs with|some us=>ofC c us|none=>none
  |none=>none
 |_=>none
def PK.E2:PK->Bool|.o _=>true|.m _=>true|_=>false
def PK.writes:PK->Bool|.b _=>true|.o _=>true|.m _=>true|_=>false
def HQ:List PK->List En->List AT|k::ks,e::es=>(if PK.E2 k=true then e.cs else [])++HQ ks es|_,_=>[]
def AMJ:Sh->Sh->Bool|.one,.one=>true|.agg,.agg=>true|_,_=>false
def I8(S:St):List Nat->(ks:List PK)->List En->List U->Option (A ks)
 |_,[],[],_=>some ()|fs,k::ks,e::es,us=>match k with
  |.o c=>if AMJ e.sh (shC c)=true then match ofC c (us.take e.cs.length),I8 S fs ks es (us.drop e.cs.length) with|some x,some y=>some (x,y)|_,_=>none else none
  |.m c=>if AMJ e.sh (shC c)=true/\e.cs.all RF=true/\GJ e.sh e.cs.length=true then match ofC c (us.take e.cs.length),I8 S fs ks es (us.drop e.cs.length) with|some x,some y=>some (x,y)|_,_=>none else none
  |.f x l=>match AWd S fs l e,I8 S fs.tail ks es us with|some x,some y=>some (x,y)|_,_=>none
  |.v c=>if AMJ e.sh (shC c)=true then match AWf S c e,I8 S fs ks es us with|some x,some y=>some (x,y)|_,_=>none else none
  |.p c=>match AWe S c e,I8 S fs ks es us with|some x,some y=>some (x,y)|_,_=>none
  |.b c=>match AWc S c e,I8 S fs ks es us with|some x,some y=>some (x,y)|_,_=>none
 |_,_,_,_=>none
def Ej:St->List PK->List En->St
 |S,k::ks,e::es=>match k with
  |.b _=>match e with
   |⟨.one,[.bp id 0]⟩=>match get S.bx id with|some ls=>Ej (S.ON id (ls.cs.map fun _=>.t .top)) ks es|none=>Ej S ks es
   |_=>Ej S ks es
  |_=>Ej S ks es
 |S,_,_=>S
def Vn(S:St)(fs:List Nat)(ks:List PK)(es:List En):Option (St×A ks):=
 match Di S (HQ ks es) with
 |some (S1,us)=>match I8 S fs ks es us with|some a=>some (Ej S1 ks es,a)|none=>none
 |none=>none
def HP{ρ:Type}:St->List AT->List U->(St->Option ρ)->Option ρ
 |S,[],[],K=>K S|S,l::ls,o::os,K=>match l with
  |.al r none=>HP (S.Bi r (.ow o)) ls os K|.vw (.own r (some (i,j))) _ _=>match S.at r with
   |some (.owh c xs ((i',j')::hs))=>if j'=j/\hs.all (fun p=>!Nat.beq p.2 j)=true then gd (i'=i) (bd xs[i]? fun x=>match ofC c ((cells c x).set j o) with
    |some x'=>HP ((S.Bi r (match hs with | []=>.ow (.sl c (xs.set i x'))|_=>.owh c (xs.set i x') hs)).kill (FW r)) ls os K
    |none=>none)
    else none
   |_=>none
  |.t _=>HP S ls os K|_=>none
 |_,_,_,_=>none
def Fk{ρ:Type}(S0:St):St->List PK->List En->List (List U)->(St->Option ρ)->Option ρ
 |S,[],_,[],K=>K S|S,k::ks,e::es,outs,K=>match k with
  |.b _=>match e,outs with
   |⟨.one,[.bp id 0]⟩,o::outs=>match get S0.bx id,get S.bx id with|some ls,some ls1=>if o.length=ls1.cs.length then Fk S0 (S.ON id (o.map (EN (DW ls.cs)))) ks es outs K else none|_,_=>none
   |_,_=>none
  |.m _=>match outs with|o::outs=>HP S e.cs o fun S'=>Fk S0 S' ks es outs K|_=>none
  |_=>Fk S0 S ks es outs K
 |_,_,_,_,_=>none
def shares(e e':En):Bool:=e.cs.any fun l=>e'.cs.any fun l'=>TR l l'
def Pd:List En->List PK->List En->Bool|prev,k::ks,e::es=>(PK.writes k&&(prev.any (shares e)||es.any (shares e)))||Pd (e::prev) ks es|_,_,_=>false
def AF3:Option En->Option U|some ⟨.one,[.t x]⟩=>some x|_=>none
def St.sc(S:St)(x:YO):Option U:=AF3 (S.rd x)
def AYP:U->Option Int|.int _ n=>some n|.u8 x=>some (x.toNat:Int)|_=>none
def St.nat(S:St)(x:YO):Option Int:=match S.sc x with|some u=>AYP u|none=>none
def St.one(S:St)(x:YO):Option AT:=match S.rd x with|some ⟨.one,[l]⟩=>some l|_=>none
def eqU:Kd->U->U->Option Bool|.i,.int k a,.int k' b=>if k=k' then some (a==b) else none|.b,.bool a,.bool b=>some (a==b)|.s,.str a,.str b=>some (a==b)|_,_,_=>none
def ABg:List Kd->List U->List U->Option Bool
 | [],[],[]=>some true|k::ks,a::as,b::bs=>match eqU k a b,ABg ks as bs with|some x,some y=>some (x&&y)|_,_=>none
 |_,_,_=>none
def Vh:List AT->Option (List U)
 | []=>some []|.t x::ls=>match Vh ls with|some us=>some (x::us)|none=>none
 |_=>none
section
variable{ρ:Type}
def gdc(cst:Bool)(p:Prop) [Decidable p] (x:Option ρ):Option ρ:=match cst with|true=>if p then x else none|false=>gd p x
def AW5(cst:Bool)(op:BinOp)(k:IntKind)(a b:Int)(K:U->Option ρ):Option ρ:=
 match op with
 |.add=>K (.int k (k.wrap (a+b)))|.sub=>K (.int k (k.wrap (a-b)))|.mul=>K (.int k (k.wrap (a*b)))|.quo=>gdc cst (b≠0) (K (.int k (k.wrap (a.tdiv b))))|.rem=>gdc cst (b≠0) (K (.int k (a.tmod b)))|.and=>K (.int k (k.wrap (BitVec.ofInt k.bits a &&& BitVec.ofInt k.bits b).toNat))|.or=>K (.int k (k.wrap (BitVec.ofInt k.bits a |||BitVec.ofInt k.bits b).toNat))|.xor=>K (.int k (k.wrap (BitVec.ofInt k.bits a ^^^ BitVec.ofInt k.bits b).toNat))|.eql=>K (.bool (a==b))|.neq=>K (.bool (a != b))|.lss=>K (.bool (decide (a<b)))|.leq=>K (.bool (decide (a<=b)))|.gtr=>K (.bool (decide (a>b)))|.geq=>K (.bool (decide (a>=b)))|_=>none
def shU(cst:Bool)(op:BinOp)(k:IntKind)(a b:Int)(K:U->Option ρ):Option ρ:=
 match op with
 |.shl=>gdc cst (¬b<0) (K (.int k (k.wrap (a*2 ^ (min b.toNat k.bits)))))|.shr=>gdc cst (¬b<0) (K (.int k (a.fdiv (2 ^ (min b.toNat k.bits)))))|_=>none
def byU(op:BinOp)(a b:Int)(K:U->Option ρ):Option ρ:=
 match op with
 |.add=>K (.u8 (toB (a+b)))|.sub=>K (.u8 (toB (a-b)))|.mul=>K (.u8 (toB (a*b)))|.and=>K (.u8 (toB (BitVec.ofInt IntKind.u8.bits a &&& BitVec.ofInt IntKind.u8.bits b).toNat))|.or=>K (.u8 (toB (BitVec.ofInt IntKind.u8.bits a |||BitVec.ofInt IntKind.u8.bits b).toNat))|.xor=>K (.u8 (toB (BitVec.ofInt IntKind.u8.bits a ^^^ BitVec.ofInt IntKind.u8.bits b).toNat))|.eql=>K (.bool (a==b))|.neq=>K (.bool (a != b))|.lss=>K (.bool (decide (a<b)))|.leq=>K (.bool (decide (a<=b)))|.gtr=>K (.bool (decide (a>b)))|.geq=>K (.bool (decide (a>=b)))|_=>none
def AU7:BinOp->Bool|.shl=>true|.shr=>true|_=>false
def AWi(cst:Bool)(op:BinOp):U->U->(U->Option ρ)->Option ρ
 |.int k a,.int k' b,K=>if AU7 op=true then shU cst op k a b K else if k=k' then (if k=.u8 then none else AW5 cst op k a b K) else none|.int k a,.u8 b,K=>if AU7 op=true then shU cst op k a b.toNat K else none|.u8 a,.u8 b,K=>byU op a.toNat b.toNat K|.str a,.str b,K=>match op with|.add=>gd (a.length+b.length<=OI) (K (.str (a++b)))|.eql=>K (.bool (a==b))|.neq=>K (.bool (a != b))|_=>none
 |_,_,_=>none
def eqK(op:BinOp)(b:Bool)(K:U->Option ρ):Option ρ:=match op with|.eql=>K (.bool b)|.neq=>K (.bool !b)|_=>none
def St.VN(S:St)(l:AT)(K:Bool->Option ρ):Option ρ:=
 match l with
 |.t .nil=>K true|.vw _ _ xs=>gd (xs.isEmpty=false) (K false)|.al r none=>match S.at r with|some (.ow .nil)=>K true|some (.ow (.sl _ xs))=>gd (xs.isEmpty=false) (K false)|_=>none
 |_=>none
def St.bin(S:St)(cst:Bool)(c:Cls)(op:BinOp)(x y:En)(K:U->Option ρ):Option ρ:=
 match c with
 |.num=>match x,y with|⟨.one,[.t a]⟩,⟨.one,[.t b]⟩=>AWi cst op a b K|_,_=>none
 |.bool=>match x,y with|⟨.one,[.t (.bool a)]⟩,⟨.one,[.t (.bool b)]⟩=>eqK op (a==b) K|_,_=>none
 |.sl=>match x,y with|⟨.one,[l]⟩,⟨.one,[.t .nil]⟩=>S.VN l fun b=>eqK op b K|_,_=>none
 |.agg ks=>match x,y with
  |⟨.agg,as⟩,⟨.agg,bs⟩=>match Vh as,Vh bs with
   |some as,some bs=>match ABg ks as bs with|some b=>eqK op b K|none=>none
   |_,_=>none
  |_,_=>none
def unU(op:UnOp)(x:U)(K:U->Option ρ):Option ρ:=
 match x with
 |.bool b=>match op with|.not=>K (.bool !b)|_=>none
 |.int k n=>match op with|.neg=>if k=.u8 then none else K (.int k (k.wrap (0-n)))|_=>none
 |_=>none
def mkInt(k:IntKind)(n:Int):U:=match k with|.u8=>.u8 (toB n)|k=>.int k (k.wrap n)
end
def AWE:List U->Bool| []=>true|.sl _ _::_=>false|.top::_=>false|.mp _::_=>false|_::us=>AWE us
def UY:C->Bool
 |.l _=>false|.m=>false|.st n=>match AWX n with|some z=>AWE (ADe n z)|none=>false
 |.un _=>false|_=>true
def AUJ(c:C)(x:U)(ys:List c.D):Option U:=
 match x with
 |.sl c' xs=>if h:c'=c then some (.sl c ((h▸xs)++ys)) else none|_=>some (.sl c ys)
def PQ(c:C)(fl:Bool)(S:St)(l:AT):Option (St×List c.D):=
 match l with
 |.t (.str s)=>match Rw.as c (.of .u s) with|some xs=>some (S,xs)|none=>none
 |.t .nil=>some (S,[])|.vw _ c' xs=>if UY c=true then match Rw.as c (.of c' xs) with|some ys=>some (S,ys)|none=>none else none
 |.al r sub=>match S.at r with
  |some (.ow x)=>match content x with
   |some w=>match Rw.as c (w.sub sub) with|some ys=>if fl=true then (if UY c=true then some (S,ys) else none) else some (S.out r,ys)|none=>none
   |none=>none
  |_=>none
 |_=>none
def Rh(c:C)(S:St)(l:AT):Option (St×U×Nat×Option (Nat×Nat)):=
 match l with
 |.t .nil=>some (S,.nil,0,none)|.al r sub=>match S.at r with
  |some (.ow x)=>match content x with
   |some w=>match Rw.as c w with
    |some xs=>some (S.out r,AF9 sub x,(mf sub xs).length,match sub with|none=>none|some (lo,n)=>some (lo+n,xs.length))
    |none=>none
   |none=>none
  |_=>none
 |.vw (.own r (some (i,j))) c' xs=>if c'=c then match S.pull r i j with|some S'=>some (S',.sl c' xs,xs.length,none)|none=>none else none
 |_=>none
def gdo{γ:Type}(p:Option (Nat×Nat))(x:Option γ):Option γ:=match p with|none=>x|some (a,b)=>gd (a=b) x
def Mk(off:Nat):AT->Option AT|.bp id o=>some (.bp id (o+off))|.ep r i j=>some (.ep r i (j+off))|.vp s cs=>some (.vp s (cs.drop off))|_=>none
def Je(r:CD)(i:Nat):Nat->List U->List AT|_,[]=>[]|j,x::xs=>Kq (.own r (some (i,j))) x::Je r i (j+1) xs
def Qc(b:Nat):Nat->List AT->List AT|_,[]=>[]|c,.ow _::ls=>.al (.cell b c) none::Qc b (c+1) ls|c,.owh _ _ _::ls=>.al (.cell b c) none::Qc b (c+1) ls|c,l::ls=>l::Qc b (c+1) ls
def IE(b o n:Nat)(l:AT):Bool:=match l.Bz with|some (.cell b' c)=>Nat.beq b' b&&Nat.ble o c&&Nat.blt c (o+n)|_=>false
def H4:List AT->Bool| []=>false|.t .top::_=>true|.und::_=>true|_::ls=>H4 ls
def Rm:AT->Bool|.bp _ _=>true|.ep _ _ _=>true|.vp _ _=>true|_=>false
section
variable{ρ:Type}
def St.load(S:St)(n:Nat)(l:AT)(K:List AT->Option ρ):Option ρ:=
 match l with
 |.bp id o=>match get S.bx id with|some ls=>if o+n<=ls.cs.length then K (Qc id o ((ls.cs.drop o).take n)) else none|none=>none
 |.ep r i j=>match S.at r with|some (.ow (.sl c xs))=>bd (at? xs i) fun x=>if j+n<=(cells c x).length then K (Je r i.toNat j (((cells c x).drop j).take n)) else none|_=>none
 |.vp s cs=>if n<=cs.length then K ((cs.take n).map (Kq s.up)) else none|_=>none
def Mc(i j n:Nat):List (Nat×Nat)->Prop| []=>True|(i',j')::hs=>i'=i/\(j<=j'/\j'<j+n)/\Mc i j n hs
def cU(i j n:Nat):(hs:List (Nat×Nat))->Decidable (Mc i j n hs)| []=>.isTrue trivial|(i',j')::hs=>@instDecidableAnd _ _ (instDecidableEqNat i' i) (@instDecidableAnd _ _ (@instDecidableAnd _ _ (Nat.decLe j j') (Nat.decLt j' (j+n))) (cU i j n hs))
def YM(n:Nat)(S:St)(ls:List AT):Option (St×List AT):=match Nat.blt n 1048576 with|true=>LM S ls|false=>some (S,ls)
def St.RX(S:St)(n:Nat)(p:AT)(cs:List AT)(K:St->Option ρ):Option ρ:=
 match p with
 |.bp id o=>match YM n S cs with
  |some (S',cs')=>if H4 cs'=true then none else
   let S2:=S'.kill (IE id o cs'.length)
   match get S2.bx id with
   |some ls=>if o+cs'.length<=ls.cs.length then K (S2.ON id (Dr ls.cs o (ES (IE id o cs'.length) cs'))) else none|none=>none
  |none=>none
 |.ep r i j=>match Di S cs with
  |some (S',us)=>match S'.at r with
   |some (.ow (.sl c xs))=>bd (at? xs i) fun x=>if j+us.length<=(cells c x).length then match ofC c (Dr (cells c x) j us) with
    |some x'=>K ((S'.Bi r (.ow (.sl c (xs.set i.toNat x')))).kill (FW r))|none=>none
    else none
   |some (.owh c xs hs)=>bd (at? xs i) fun x=>if j+us.length<=(cells c x).length then match ofC c (Dr (cells c x) j us) with
    |some x'=>@gd _ (Mc i.toNat j us.length hs) (cU i.toNat j us.length hs) (K ((S'.Bi r (.ow (.sl c (xs.set i.toNat x')))).kill (FW r)))|none=>none
    else none
   |_=>none
  |none=>none
 |_=>none
end
def MX(S:St):List AT->List (Nat×Nat×YO)->Option (List AT)
 |ls,[]=>some ls|ls,(o,n,x)::ps=>match S.rd x with|some e=>if e.cs.length=n/\GJ e.sh n=true/\H4 e.cs=false/\o+n<=ls.length then MX S (Dr ls o e.cs) ps else none|none=>none
def AB2(i n:Nat):List (Nat×YO)->Bool| []=>i==n|(k,_)::ps=>k==i&&AB2 (i+1) n ps
def bsL(c:C)(n:Nat):St->List (Nat×YO)->Option (St×List c.D)
 |S,[]=>some (S,[])|S,(i,x)::ps=>match S.rd x with
  |some e=>if e.cs.length=c.size/\GJ e.sh e.cs.length=true/\i<n then match Di S e.cs with
   |some (S',us)=>match ofC c us,bsL c n S' ps with|some y,some (S2,ys)=>some (S2,y::ys)|_,_=>none
   |none=>none
   else none
  |none=>none
def bsK(c:C)(n:Nat):St->List c.D->List (Nat×YO)->Option (St×List c.D)
 |S,xs,[]=>some (S,xs)|S,xs,(i,x)::ps=>match S.rd x with
  |some e=>if e.cs.length=c.size/\GJ e.sh e.cs.length=true/\i<n then match Di S e.cs with
   |some (S',us)=>match ofC c us with|some y=>bsK c n S' (xs.set i y) ps|none=>none
   |none=>none
   else none
  |none=>none
def AB3:Sh->Bool|.one=>true|_=>false
def St.wide(S:St)(c:C):AT->Bool
 |.vw _ c' _=>decide (c'=c)|.al r _=>match S.at r with
  |some (.ow x)=>match x with|.sl c' _=>decide (c'=c)|_=>true
  |some (.owh c' _ _)=>decide (c'=c)|_=>false
 |_=>true
inductive YOp where
 |mv(d:Nat)(x:YO)|as(d:Nat)(x:YO)|pick(d:Nat)(c a b:YO)|alloc(d:Nat)(zs:List U)|box(d:Nat)(x:YO)|build(d:Nat)(zs:List U)(parts:List (Nat×Nat×YO))|CB(d:Nat)(n:Nat)(c:C)(parts:List (Nat×YO))|ld(d:Nat)(n:Option Nat)(x:YO)|st(n:Nat)(x v:YO)|chk(d:Nat)(x:YO)|bin(d:Nat)(c:Cls)(op:BinOp)(x y:YO)|un(d:Nat)(op:UnOp)(x:YO)|cvI(d:Nat)(k:IntKind)(x:YO)|M9(d:Nat)(x:YO)|O3(d:Nat)(x:YO)|NG(d:Nat)(n:Nat)(caps:List YO)|R0(d:Nat)(c:C)(n:YO)|sub(d:Nat)(c:C)(x:YO)(lo hi:Option YO)|Vf(d:Nat)(x:YO)(lo hi:Option YO)|fa(d:Nat)(off:Nat)(x:YO)|fld(d:Nat)(off:Nat)(n:Option Nat)(x:YO)|ia(d:Nat)(c:C)(x i:YO)|ix(d:Nat)(x i:YO)|ext(d:Nat)(x:YO)(i:Nat)|call (d:Nat) (g:GF) (fs:List Nat) (hf:fs.map (fun n=>(R[n]?).map GF.x)=(fX g.ps).map some) (args:List YO)|D5(d:Nat)(x:YO)(ms:List Md)(args:List YO)|len(d:Nat)(x:YO)|lens(d:Nat)(x:YO)|app(d:Nat)(c:C)(fl:Bool)(x y:YO)|SA(d:Nat)(c:C)(x n:YO)|cpy(d:Nat)(c:C)(x y:YO)|mm(d:Nat)(isMax:Bool)(x y:YO)|mmk(d:Nat)|UK(d:Nat)(x k:YO)|TF(x k v:YO)|UL(d:Nat)(x:YO)|bad(d:Option Nat)|drop(ds:List Nat)|VO(ns:List (CD×C))
section
variable {R} {ρ:Type}
def range(S:St)(len:Nat)(lo hi:Option YO)(K:Nat->Nat->Option ρ):Option ρ:=
 match lo,hi with
 |none,none=>K 0 len|some x,none=>match S.nat x with|some a=>gd (0<=a/\a<=(len:Int)) (K a.toNat len)|none=>none
 |none,some y=>match S.nat y with|some b=>gd (0<=b/\b<=(len:Int)) (K 0 b.toNat)|none=>none
 |some x,some y=>match S.nat x,S.nat y with|some a,some b=>gd (0<=a/\a<=b/\b<=(len:Int)) (K a.toNat b.toNat)|_,_=>none
def part{α:Type}(lo hi:Option YO)(xs:List α)(a b:Nat):List α:=
 match lo,hi with
 |none,none=>xs|some _,none=>xs.drop a|none,some _=>xs.take b|some _,some _=>(xs.drop a).take (b-a)
def AVV{α γ:Type}(s:Nat)(a:α):List (Nat×α)->(List (Nat×α)->γ)->γ
 | [],K=>K [(s,a)]|(k,b)::r,K=>match Nat.beq s k with
  |true=>K ((s,a)::r)|false=>match Nat.ble s k with|true=>K ((s,a)::(k,b)::r)|false=>AVV s a r fun r=>K ((k,b)::r)
def HV(S:St)(d:Nat)(sh:Sh)(cs:List AT)(K:St->Option ρ):Option ρ:=
 match mem d S.pin with
 |true=>none|false=>match get S.tm d with|none=>cQ sh fun sh=>Tw cs fun cs=>DP S.nv fun v=>AVV d ⟨sh,cs,v⟩ S.tm fun tm=>K ⟨tm,S.bx,S.pin,v+1⟩|some _=>((S.kill (E1 d)).KD d sh (ES (E1 d) cs)).Fu K
def kv(S:St)(e:En):Option Nat:=
 match e with
 |⟨.one,[.bp id _]⟩=>match get S.bx id with|some ls=>if (Fl (DW ls.cs) ls.cs).isSome=true then some (DW ls.cs) else none|none=>none
 |e=>if (Fl (DW e.cs) e.cs).isSome=true then some (DW e.cs) else none
def kx(ks:List PK)(S0:St)(es:List En)(k:Nat):Option Nat:=
 match es[k]? with
 |some e=>match ks[k]? with|some (.p _)=>none|_=>kv S0 e
 |none=>none
def QC(S:St)(d:Nat)(ls:List AT)(K:St->Option ρ):Option ρ:=
 match mem d S.pin with|true=>none|false=>K (((S.kill (fun l=>E1 d l||Fp d l)).KD d .one [.bp d 0]).ON d ls)
def SD:(cs:List C)->Tu cs->List (List U)| [],_=>[]| [c],x=>[cells c x]|c::c'::cs,x=>cells c x.1::SD (c'::cs) x.2
def post(d:Nat)(g:GF)(es:List En)(S0 S:St)(r:Tu (g.rk.cs++La g.ps))(K:St->Option ρ):Option ρ:=
 Fk S0 S g.ps es ((SD _ r).drop g.rk.cs.length) fun S'=>
  match g.rk with
  |.ptr k _=>match kx g.ps S0 es k with|some lab=>QC S' d (((SD _ r).take g.rk.cs.length).flatten.map (EN lab)) K|none=>none
  |.vw k _=>match kx g.ps S0 es k with|some lab=>HV S' d .one (((SD _ r).take g.rk.cs.length).flatten.map (EN lab)) K|none=>none
  |.ret cs=>HV S' d (ACv (cs.map wC)) (((SD _ r).take g.rk.cs.length).flatten.map Jt) K
def AGh(d:Nat)(g:GF)(fs:List Nat)(es:List En)(S:St)(K:St->Option ρ):Option ρ:=
 match Pd [] g.ps es with
 |true=>none|false=>match Vn S fs g.ps es with|some (S1,a)=>bd (g.d a) fun r=>post d g es S S1 r K|none=>none
def rq(es:List En):Option (List Cap):=
 match es with
 | []=>some []|⟨.one,[l]⟩::es=>match l.AWn,rq es with|some c,some cs=>some (c::cs)|_,_=>none
 |_=>none
def St.P9(S:St)(x:YO):Option (CD×List (Int×Int)):=
 match S.one x with
 |some (.al r none)=>match S.at r with|some (.ow (.mp ks))=>some (r,ks)|_=>none
 |_=>none
def ev(o:YOp R)(S:St)(K:St->Option ρ):Option ρ:=
 match o with
 |.mv d x=>match S.rd x with|some e=>HV S d e.sh e.cs K|none=>none
 |.as d x=>match S.rd x with
  |some e=>match LM S e.cs with|some (S',cs)=>HV S' d e.sh cs K|none=>none
  |none=>none
 |.pick d c a b=>match S.sc c,S.rd a,S.rd b with|some (.bool t),some ea,some eb=>br t (HV S d ea.sh ea.cs K) (HV S d eb.sh eb.cs K)|_,_,_=>none
 |.alloc d zs=>QC S d (zs.map .t) K|.box d x=>match S.rd x with
  |some e=>match sG S x e.cs with
   |some (S1,cs)=>if H4 cs=true\/GJ e.sh e.cs.length=false then none else
    QC S1 d (ES (fun l=>E1 d l||Fp d l) cs) K
   |none=>none
  |none=>none
 |.build d zs parts=>match MX S (zs.map .t) parts with|some ls=>HV S d .agg ls K|none=>none
 |.CB d n c parts=>match ADR c with
  |some z=>if n*c.size<=16777216 then match (if AB2 0 n parts=true then bsL c n S parts else bsK c n S (List.replicate n z) parts) with
   |some (S',xs)=>HV S' d .one [.ow (.sl c xs)] K|none=>none
   else none
  |none=>none
 |.ld d n x=>match S.one x with|some p=>S.load (Dk n) p fun ls=>HV S d (shN n) ls K|none=>none
 |.st n x v=>match S.one x,S.rd v with|some p,some e=>if e.cs.length=n % 1048576/\GJ e.sh (n % 1048576)=true then S.RX n p e.cs K else none|_,_=>none
 |.chk d x=>match S.one x with|some p=>if Rm p=true then HV S d .one [p] K else none|none=>none
 |.bin d c op x y=>match S.rd x,S.rd y with
  |some ex,some ey=>S.bin (match y with|.k _=>true|_=>false) c op ex ey fun t=>HV S d .one [.t t] K
  |_,_=>none
 |.un d op x=>match S.sc x with|some a=>unU op a fun t=>HV S d .one [.t t] K|none=>none
 |.cvI d k x=>match S.nat x with|some n=>HV S d .one [.t (mkInt k n)] K|none=>none
 |.M9 d x=>match S.sc x with|some (.str s)=>HV S d .one [.ow (.sl .u s)] K|_=>none
 |.O3 d x=>match S.one x with
  |some l=>match S.elems l with
   |some w=>match Rw.as .u w with|some bs=>HV S d .one [.t (.str bs)] K|none=>none
   |none=>none
  |none=>none
 |.NG d n caps=>match S.rds caps with
  |some es=>match rq es with|some cs=>HV S d .one [.fn n cs] K|none=>none
  |none=>none
 |.R0 d c n=>match S.nat n with
  |some n=>match ADR c with|some z=>gd (0<=n/\n<=(lim:Int)) (HV S d .one [.ow (.sl c (List.replicate n.toNat z))] K)|none=>none
  |none=>none
 |.Vf d x lo hi=>match S.sc x with|some (.str s)=>range S s.length lo hi fun a b=>HV S d .one [.t (.str (part lo hi s a b))] K|_=>none
 |.sub d c x lo hi=>match S.one x with
  |some l=>if S.wide c l=true then match l with
   |.al r sub=>match S.elems l with
    |some w=>match Rw.as c w with
     |some xs=>range S xs.length lo hi fun a b=>HV S d .one [.al r (some (match sub with|none=>(a,b-a)|some (lo0,_)=>(lo0+a,b-a)))] K
     |none=>none
    |none=>none
   |.vw s c' xs=>range S xs.length lo hi fun a b=>HV S d .one [.vw s.up c' (part lo hi xs a b)] K|.t .nil=>range S 0 lo hi fun _ _=>HV S d .one [.t .nil] K|_=>none
   else none
  |none=>none
 |.fa d off x=>match S.one x with
  |some p=>match Mk off p with|some q=>HV S d .one [q] K|none=>none
  |none=>none
 |.fld d off n x=>match S.rd x with|some ⟨.agg,cs⟩=>if off+Dk n<=cs.length then HV S d (shN n) ((cs.drop off).take (Dk n)) K else none|_=>none
 |.ia d c x i=>match S.one x,S.nat i with
  |some l,some n=>if S.wide c l=true then match l with
   |.al r sub=>match S.elems l with
    |some (.of _ xs)=>bd (at? xs n) fun _=>HV S d .one [.ep r (match sub with|none=>n|some (lo,_)=>(lo:Int)+n) 0] K
    |_=>match sub with
     |none=>match S.at r with|some (.owh _ xs _)=>bd (at? xs n) fun _=>HV S d .one [.ep r n 0] K|_=>none
     |_=>none
   |.vw s c' xs=>bd (at? xs n) fun x=>HV S d .one [.vp s.up (cells c' x)] K|_=>none
   else none
  |_,_=>none
 |.ix d x i=>match S.sc x,S.nat i with|some (.str s),some n=>bd (at? s n) fun x=>HV S d .one [.t (.u8 x)] K|_,_=>none
 |.ext d x i=>match x with
  |.tmp s=>match get S.tm s with
   |some ⟨.tup ns,cs,_⟩=>match ns[i]? with
    |some n=>
     let o:=UM (ns.take i)
     if o+Dk n<=cs.length then match LM S (((R9 s 0 cs).drop o).take (Dk n)) with|some (S',ls)=>HV S' d (shN n) ls K|none=>none
     else none
    |none=>none
   |_=>none
  |_=>none
 |.lens d x=>match S.sc x with|some (.str s)=>HV S d .one [.t (.int .i64 s.length)] K|_=>none
 |.len d x=>match S.one x with
  |some l=>match S.elems l with|some (.of _ xs)=>HV S d .one [.t (.int .i64 xs.length)] K|some .nl=>HV S d .one [.t (.int .i64 0)] K|none=>none
  |none=>none
 |.app d c fl x y=>match S.one x,S.one y with
  |some lx,some ly=>match PQ c fl S ly with
   |some (S1,ys)=>match Rh c S1 lx with
    |some (S2,b,n,e)=>gdo e (gd (n+ys.length<=lim) (match AUJ c b ys with|some u=>HV S2 d .one [.ow u] K|none=>none))
    |none=>none
   |none=>none
  |_,_=>none
 |.SA d c x n=>match S.one x,S.nat n,ADR c with
  |some lx,some k,some z=>gd (0<=k/\k<=(lim:Int)) (match Rh c S lx with
   |some (S2,b,n,e)=>gdo e (gd (n+k.toNat<=lim) (match AUJ c b (List.replicate k.toNat z) with|some u=>HV S2 d .one [.ow u] K|none=>none))
   |none=>none)
  |_,_,_=>none
 |.cpy d c x y=>match S.one x,S.one y with
  |some (.al r none),some ly=>match S.at r,S.elems ly with
   |some (.ow (.sl c' xs)),some w=>match Rw.as c w,Rw.as c (.of c' xs) with
    |some ys,some xs=>if S.wide c ly=true/\UY c=true then
     gd (xs.isEmpty=false) (HV ((S.Bi r (.ow (.sl c (ys.take xs.length++xs.drop ys.length)))).kill (FW r)) d .one [.t (.int .i64 (min ys.length xs.length:Nat))] K)
     else none
    |_,_=>none
   |_,_=>none
  |_,_=>none
 |.mm d isMax x y=>match S.sc x,S.sc y with|some (.int k a),some (.int k' b)=>if k'=k then HV S d .one [.t (.int k (if isMax=true then (if b>a then b else a) else (if b<a then b else a)))] K else none|_,_=>none
 |.mmk d=>HV S d .one [.ow (.mp [])] K|.UK d x k=>match S.P9 x,S.sc k with|some (_,ks),some (.int .i64 n)=>HV S d .one [.t (.int .i64 (Mh ks n))] K|_,_=>none
 |.TF x k v=>match S.P9 x,S.sc k,S.sc v with|some (r,ks),some (.int .i64 n),some (.int .i64 m)=>K ((S.Bi r (.ow (.mp (Jf ks n m)))).kill (FW r))|_,_,_=>none
 |.UL d x=>match S.P9 x with|some (_,ks)=>HV S d .one [.t (.int .i64 ks.length)] K|none=>none
 |.bad _=>none|.drop ds=>K (S.IS ds)|.VO ns=>K (S.RA ns)|.call d g fs _ args=>match S.rds args with|some es=>AGh d g fs es S K|none=>none
 |.D5 d x ms args=>match S.one x,S.rds args with
  |some (.fn n caps),some es=>match R[n]? with|some g=>if g.ps.map PK.md=ms then AGh d g [] (es++caps.map fun l=>⟨.one,[l.leaf]⟩) S K else none|none=>none
  |_,_=>none
def YOp.jm:YOp R->Option Nat|.mv d _=>some d|.as d _=>some d|.pick d _ _ _=>some d|.alloc d _=>some d|.box d _=>some d|.build d _ _=>some d|.CB d _ _ _=>some d|.ld d _ _=>some d|.chk d _=>some d|.bin d _ _ _ _=>some d|.un d _ _=>some d|.cvI d _ _=>some d|.M9 d _=>some d|.O3 d _=>some d|.NG d _ _=>some d|.R0 d _ _=>some d|.sub d _ _ _ _=>some d|.Vf d _ _ _=>some d|.fa d _ _=>some d|.fld d _ _ _=>some d|.ia d _ _ _=>some d|.ix d _ _=>some d|.ext d _ _=>some d|.call d _ _ _ _=>some d|.D5 d _ _ _=>some d|.len d _=>some d|.lens d _=>some d|.app d _ _ _ _=>some d|.SA d _ _ _=>some d|.cpy d _ _ _=>some d|.mm d _ _ _=>some d|.mmk d=>some d|.UK d _ _=>some d|.UL d _=>some d|.TF _ _ _=>none|.bad d=>d|.st _ _ _=>none|.drop _=>none|.VO _=>none
def YOp.simple:YOp R->Bool|.mv _ _=>true|.as _ _=>true|.pick _ _ _ _=>true|.ld _ _ _=>true|.chk _ _=>true|.bin _ _ _ _ _=>true|.un _ _ _=>true|.cvI _ _ _=>true|.M9 _ _=>true|.O3 _ _=>true|.R0 _ _ _=>true|.sub _ _ _ _ _=>true|.Vf _ _ _ _=>true|.fa _ _ _=>true|.fld _ _ _ _=>true|.ia _ _ _ _=>true|.ix _ _ _=>true|.len _ _=>true|.lens _ _=>true|.mm _ _ _ _=>true|.mmk _=>true|.UK _ _ _=>true|.UL _ _=>true|.call _ g _ _ _=>!(g.ps.any PK.writes)|_=>false
def MS(o:YOp R)(S:St)(K:St->Option ρ):Option ρ:=match o.jm with|some d=>HV S d .one [.und] K|none=>K S
def reE(s:Nat)(e:Ent):List (Nat×Ent)->List (Nat×Ent)
 | []=>[]|(k,x)::r=>match Nat.beq k s with|true=>(k,e)::r|false=>(k,x)::reE s e r
def St.lit(S:St)(s:Nat)(b:Bool):St:=⟨reE s ⟨.one,[.t (.bool b)],S.nv⟩ S.tm,S.bx,S.pin,S.nv+1⟩
def lW(w:Bool)(o:YOp R)(S:St)(f:Option ρ)(K:St->Option ρ):Option ρ:=match w with|true=>f|false=>MS o S K
def evg(g:Option (Nat×Bool))(o:YOp R)(S:St)(K:St->Option ρ):Option ρ:=
 match g with
 |none=>ev o S K|some (s,w)=>match get S.tm s with
  |some ⟨.one,[.t (.bool b)],_⟩=>
   br b (lW w o (S.lit s true) (ev o (S.lit s true) K) K) (lW (!w) o (S.lit s false) (ev o (S.lit s false) K) K)
  |some ⟨.one,[.und],_⟩=>MS o S K|_=>none
def evs:List (Option (Nat×Bool)×YOp R)->St->(St->Option ρ)->Option ρ
 | [],S,K=>K S|(g,o)::r,S,K=>match o.simple with|true=>evg g o S fun S'=>evs r S' K|false=>evg g o S fun S'=>S'.Fu fun S'=>evs r S' K
def YOp.wr:YOp R->Option YO|.app _ _ _ x _=>some x|.SA _ _ x _=>some x|.cpy _ _ x _=>some x|.TF x _ _=>some x|_=>none
def J6(l:AT):List PK->List En->Bool|k::ks,e::es=>(!PK.writes k||e.cs.all fun l'=>!RN l' l)&&J6 l ks es|_,_=>true
def St.N0(S:St):AT->Bool
 |.bp id _=>(get S.bx id).isSome|.ep _ _ _=>true|.vp _ cs=>!cs.isEmpty|.al r _=>match S.at r with|some (.ow x)=>!ZV x|_=>false
 |.vw (.own _ _) _ _=>true|.t .nil=>true|_=>false
def Um(o:YOp R)(S:St)(l:AT):Bool:=
 S.N0 l&&match o with
  |.st _ x _=>match S.one x with|some (.bp id _)=>!mem id (names l)|some (.ep r _ _)=>!isR l.Bz r|_=>false
  |.call _ g _ _ args=>match S.rds args with|some es=>J6 l g.ps es|none=>false
  |.D5 _ x ms args=>match S.one x,S.rds args with
   |some (.fn n caps),some es=>match R[n]? with|some g=>if g.ps.map PK.md=ms then J6 l g.ps (es++caps.map fun l=>⟨.one,[l.leaf]⟩) else false|none=>false
   |_,_=>false
  |o=>match o.wr with
   |some y=>match S.one y with
    |some lt=>l.Bz.isNone||!(match l.Bz with|some r=>isR lt.Bz r|none=>lt.Bz.isNone)
    |none=>false
   |none=>true
def Ju(o:YOp R)(S:St):List Nat->Bool
 | []=>true|s::ss=>(match S.one (.tmp s) with|some l=>Um o S l|none=>false)&&Ju o S ss
end
abbrev ifB{γ:Type}(b:Bool)(x:Option γ):Option γ:=match b with|true=>x|false=>none
theorem AW3{γ:Type}{b:Bool}{x:Option γ}:ifB b x=if b=true then x else none:=by cases b<;>rfl
def bB{α:Type}(k:Nat):List (Nat×α)->Bool
 | []=>false|(j,_)::r=>match Nat.beq j k with|true=>true|false=>bB k r
def lM{α:Type}:List (Nat×α)->Bool| []=>true|(k,_)::r=>(!bB k r)&&lM r
def AKI:List (Option Nat)->List (Option Nat)->Bool| [],[]=>true|none::r,none::r'=>AKI r r'|some a::r,some b::r'=>Nat.beq a b&&AKI r r'|_,_=>false
def AWy:Sh->Sh->Bool|.one,.one=>true|.agg,.agg=>true|.tup a,.tup b=>AKI a b|.ptr a,.ptr b=>Nat.beq a b|.vw a,.vw b=>Nat.beq a b|_,_=>false
def AIo:Option (Nat×Nat)->Option (Nat×Nat)->Bool|none,none=>true|some (a,b),some (a',b')=>Nat.beq a a'&&Nat.beq b b'|_,_=>false
def AIn:Src->Src->Bool|.old a,.old b=>Nat.beq a b|.own r s,.own r' s'=>CD.is r r'&&AIo s s'|_,_=>false
def AUs:List (Nat×Nat)->List (Nat×Nat)->Bool| [],[]=>true|(a,b)::r,(a',b')::r'=>Nat.beq a a'&&Nat.beq b b'&&AUs r r'|_,_=>false
section
variable{ρ:Type}
def agU:U->U->Option ρ->Option ρ|.top,.top,X=>X|.int k n,.int k' n',X=>if k'=k then eqv n n' X else none|.u8 a,.u8 b,X=>eqv a b X|.bool a,.bool b,X=>eqv a b X|.str a,.str b,X=>eqv a b X|.nil,.nil,X=>X|.np,.np,X=>X|.mp a,.mp b,X=>eqv a b X|.sl c xs,.sl c' ys,X=>if h:c'=c then eqv xs (h▸ys) X else none|_,_,_=>none
def AWa:List U->List U->Option ρ->Option ρ| [],[],X=>X|a::r,b::r',X=>agU a b (AWa r r' X)|_,_,_=>none
def AXw:AT->AT->Option ρ->Option ρ|.t x,.t y,X=>agU x y X|.und,.und,X=>X|.ow x,.ow y,X=>agU x y X|.owh c xs hs,.owh c' ys hs',X=>ifB (AUs hs hs') (if h:c'=c then eqv xs (h▸ys) X else none)|.al r s,.al r' s',X=>ifB (CD.is r r'&&AIo s s') X|.ep r i j,.ep r' i' j',X=>ifB (CD.is r r'&&Nat.beq j j') (eqv i i' X)|.vw s c xs,.vw s' c' ys,X=>ifB (AIn s s') (if h:c'=c then eqv xs (h▸ys) X else none)|.vp s cs,.vp s' cs',X=>ifB (AIn s s') (AWa cs cs' X)|.bp a o,.bp a' o',X=>ifB (Nat.beq a a'&&Nat.beq o o') X|_,_,_=>none
def AUG:List AT->List AT->Option ρ->Option ρ| [],[],X=>X|a::r,b::r',X=>AXw a b (AUG r r' X)|_,_,_=>none
def agE(v:Nat):List (Nat×Ent)->List (Nat×Ent)->Option ρ->Option ρ
 | [],[],X=>X|(k,e)::r,(k',e')::r',X=>match Nat.beq k k' with
  |true=>match (Nat.blt e.ver v&&Nat.blt e'.ver v) with|true=>agE v r r' X|false=>ifB (AWy e.sh e'.sh) (AUG e.cs e'.cs (agE v r r' X))
  |false=>none
 |_,_,_=>none
def agB(v:Nat):List (Nat×Bx)->List (Nat×Bx)->Option ρ->Option ρ
 | [],[],X=>X|(k,e)::r,(k',e')::r',X=>match Nat.beq k k' with
  |true=>match (Nat.blt e.ver v&&Nat.blt e'.ver v) with|true=>agB v r r' X|false=>AUG e.cs e'.cs (agB v r r' X)
  |false=>none
 |_,_,_=>none
def agS(v:Nat)(A B:St)(X:Option ρ):Option ρ:=ifB (lM A.tm&&lM B.tm&&lM A.bx&&lM B.bx) (agE v A.tm B.tm (agB v A.bx B.bx X))
end
inductive Bu where
 |nil|op(i:Nat)(g:Option (Nat×Bool))(sf:List Nat)(o:YOp R)(rest:Bu)|dr(ds:List Nat)(rest:Bu)|nl(ns:List (CD×C))(rest:Bu)|both(n:Nat)(a b:Bu)
section
variable {R} {ρ:Type}
def evr:Bu R->St->(St->Option ρ)->Option ρ
 |.nil,S,K=>K S|.op _ g sf p rest,S,K=>match g with
  |none=>ifB (Ju p S sf) (ev p S fun S'=>S'.Fu fun S'=>evr rest S' K)|some (s,w)=>match get S.tm s with
   |some ⟨.one,[.t (.bool b)],_⟩=>
    br b (lW w p (S.lit s true) (ifB (Ju p (S.lit s true) sf) (ev p (S.lit s true) fun S'=>S'.Fu fun S'=>evr rest S' K)) fun S'=>S'.Fu fun S'=>evr rest S' K)
     (lW (!w) p (S.lit s false) (ifB (Ju p (S.lit s false) sf) (ev p (S.lit s false) fun S'=>S'.Fu fun S'=>evr rest S' K)) fun S'=>S'.Fu fun S'=>evr rest S' K)
   |some ⟨.one,[.und],_⟩=>MS p S fun S'=>S'.Fu fun S'=>evr rest S' K|_=>none
 |.dr ds rest,S,K=>evr rest (S.IS ds) K|.nl ns rest,S,K=>evr rest (S.RA ns) K|.both n a b,S,K=>match n with|0=>evr a S fun A=>evr b S fun B=>agS S.nv A B (K A)|_+1=>evr a S fun A=>alt (fun X=>evr b S fun B=>agS S.nv A B X) (K A)
end
inductive AL where
 |val(c:C)(s:Option Src)|num(k:IntKind)|al(r:CD)
def AL.D:AL->Type|.val c _=>c.D|.num _=>Int|.al _=>Unit
def AL.w:AL->Nat|.val c _=>c.size|.num _=>1|.al _=>1
def TA:List AL->Type| []=>Unit| [a]=>a.D|a::a'::as=>a.D×TA (a'::as)
def ARa(s:Option Src)(x:U):AT:=match s with|none=>Jt x|some q=>Kq q x
def AL.leaf:(a:AL)->a.D->List AT|.val c s,x=>(cells c x).map (ARa s)|.num k,z=>[.t (.int k z)]|.al r,_=>[.al r none]
def ARb(s:Option Src):AT->Option U
 |.t (.sl _ _)=>none|.t .nil=>none|.t (.mp _)=>none|.t x=>some x|.ow (.sl c xs)=>match s with|none=>some (.sl c xs)|some _=>none
 |.ow (.mp ks)=>match s with|none=>some (.mp ks)|some _=>none
 |.vw q' c xs=>match s with|none=>none|some q=>if q'=q then some (.sl c xs) else none
 |_=>none
def vU(s:Option Src):List AT->Option (List U)
 | []=>some []|l::ls=>match ARb s l,vU s ls with|some x,some xs=>some (x::xs)|_,_=>none
def AL.un:(a:AL)->List AT->Option a.D
 |.val c s,ls=>match vU s ls with|some us=>ofC c us|none=>none
 |.num k,ls=>match ls with | [.t (.int k' z)]=>if k'=k then some z else none|_=>none
 |.al r,ls=>match ls with | [.al r' none]=>if r'=r then some () else none|_=>none
def TD:(as:List AL)->TA as->List AT| [],_=>[]| [a],x=>a.leaf x|a::a'::as,x=>a.leaf x.1++TD (a'::as) x.2
def AVw:(as:List AL)->List AT->Option (TA as)
 | [],ls=>match ls with | []=>some ()|_=>none
 | [a],ls=>a.un ls|a::a'::as,ls=>match a.un (ls.take a.w),AVw (a'::as) (ls.drop a.w) with|some x,some y=>some (x,y)|_,_=>none
abbrev Cut:=List (Bool×Nat×Sh×List AL)
def wid:List AL->Nat| []=>0|a::as=>a.w+wid as
def Cut.as(c:Cut):List AL:=(c.map fun v=>v.2.2.2).flatten
def seg:Cut->List AT->List (Bool×Nat×Sh×List AT)| [],_=>[]|(b,d,sh,as)::vs,ls=>(b,d,sh,ls.take (wid as))::seg vs (ls.drop (wid as))
def look(b:Bool)(k:Nat):List (Bool×Nat×Sh×List AT)->Option (Sh×List AT)
 | []=>none|(b',d,sh,ls)::r=>match (b'==b&&Nat.beq d k) with|true=>some (sh,ls)|false=>look b k r
def mC(q:List (Bool×Nat×Sh×List AT))(a:List (Nat×Ent))(v:Nat):List (Nat×Ent)->List (Nat×Ent)
 | []=>[]|(k,e)::r=>(k,match look false k q with|some (sh,ls)=>⟨sh,ls,v⟩|none=>match get a k with|some e'=>e'|none=>e)::mC q a v r
def mB(q:List (Bool×Nat×Sh×List AT))(a:List (Nat×Bx))(v:Nat):List (Nat×Bx)->List (Nat×Bx)
 | []=>[]|(k,e)::r=>(k,match look true k q with|some (_,ls)=>⟨ls,v⟩|none=>match get a k with|some e'=>e'|none=>e)::mB q a v r
def Cut.st(c:Cut)(S S':St)(x:TA c.as):St:=⟨mC (seg c (TD c.as x)) S.tm S.nv S'.tm,mB (seg c (TD c.as x)) S.bx S.nv S'.bx,S.pin,S.nv+1⟩
def OL(b:Bool)(k:Nat):Cut->Bool
 | []=>false|(b',d,_)::r=>match (b'==b&&Nat.beq d k) with|true=>true|false=>OL b k r
def AJd(c:Cut)(a:List (Nat×Ent)):List (Nat×Ent)->Bool
 | []=>true|(k,e)::r=>(match OL false k c with|true=>true|false=>match get a k with|some e'=>Nat.beq e.ver e'.ver|none=>false)&&(!bB k r)&&AJd c a r
def AJc(c:Cut)(a:List (Nat×Bx)):List (Nat×Bx)->Bool
 | []=>true|(k,e)::r=>(match OL true k c with|true=>true|false=>match get a k with|some e'=>Nat.beq e.ver e'.ver|none=>false)&&(!bB k r)&&AJc c a r
def OE{α:Type}:List (Nat×α)->List (Nat×α)->Bool| [],[]=>true|(k,_)::r,(k',_)::r'=>Nat.beq k k'&&OE r r'|_,_=>false
def Qt(S:St):Cut->Option (List AT)
 | []=>some []|(false,d,sh,as)::vs=>match get S.tm d,Qt S vs with|some e,some ls=>if AMJ e.sh sh=true/\e.cs.length=wid as then some (e.cs++ls) else none|_,_=>none
 |(true,d,_,as)::vs=>match get S.bx d,Qt S vs with|some e,some ls=>if e.cs.length=wid as then some (e.cs++ls) else none|_,_=>none
def wfE(v:Nat):List (Nat×Ent)->Bool| []=>true|(_,e)::r=>Nat.blt e.ver v&&wfE v r
def wfB(v:Nat):List (Nat×Bx)->Bool| []=>true|(_,e)::r=>Nat.blt e.ver v&&wfB v r
def Cut.fit(c:Cut)(S S':St):Option (TA c.as):=
 if wfE S.nv S.tm=true/\wfB S.nv S.bx=true/\AJd c S.tm S'.tm=true/\AJc c S.bx S'.bx=true
 then match Qt S' c with|some ls=>AVw c.as ls|none=>none
 else none
inductive Gn where
 |skip|region(ops:List (Option (Nat×Bool)×YOp R))(FV:List Nat)|U5(r:Bu R)(FV:List Nat)|seq(a b:Gn)|join(c:Cut)(a b:Gn)|cond(c:Nat)(kt ke:List Nat)(t e:Gn)|block(id:Nat)(b:Gn)|loop(c:Cut)(b:Gn)|exit(id:Nat)|ret|scope(b:Gn)|or(a b:Gn)|dead|AVR(c:Cut)(b:Gn)
end
section
variable{R:List GF}{ρ:Type}
def HT:Gn R->St->(Ex->St->Option ρ)->Option ρ
 |.skip,S,K=>K .n S|.region ops FV,S,K=>evs ops S fun S'=>(S'.sK FV).Fu fun S'=>K .n S'|.U5 r FV,S,K=>evr r S fun S'=>(S'.sK FV).Fu fun S'=>K .n S'|.seq a b,S,K=>HT a S fun e S'=>match e with|Ex.n=>HT b S' K|.x i=>K (.x i) S'|.r=>K .r S'
 |.join c a b,S,K=>HT a S fun e S'=>match e with
  |.n=>match c.fit S S' with|some x=>jn (fun x=>(c.st S S' x).Fu fun S=>HT b S K) x|none=>none
  |.x i=>K (.x i) S'|.r=>K .r S'
 |.cond c kt ke t e,S,K=>match S.sc (.tmp c) with|some (.bool b)=>br b ((S.sK kt).Fu fun S=>HT t S K) ((S.sK ke).Fu fun S=>HT e S K)|_=>none
 |.block id b,S,K=>HT b S fun e S'=>match e with|.n=>K .n S'|.x i=>if i=id then K .n S' else K (.x i) S'|.r=>K .r S'
 |.loop c b,S,K=>match c.fit S S with
  |some x=>BB (fun L x=>(c.st S S x).Fu fun S1=>HT b S1 fun e S'=>match e with
   |.n=>if OE S.tm S'.tm=true/\OE S.bx S'.bx=true then (match c.fit S S' with|some y=>L y|none=>none) else none
   |.x i=>K (.x i) S'|.r=>K .r S') big x
  |none=>none
 |.exit id,S,K=>K (.x id) S|.ret,S,K=>K .r S|.scope b,S,K=>HT b S K|.or a b,S,K=>orX (HT a S K) (HT b S K)|.dead,_,_=>none|.AVR c b,S,K=>HT b S fun e S0=>match e with
  |.n=>match c.fit S0 S0 with
   |some x=>BB (fun L x=>(c.st S0 S0 x).Fu fun S1=>HT b S1 fun e S'=>match e with
    |.n=>if OE S0.tm S'.tm=true/\OE S0.bx S'.bx=true then (match c.fit S0 S' with|some y=>L y|none=>none) else none
    |.x i=>K (.x i) S'|.r=>K .r S') big x
   |none=>none
  |.x i=>K (.x i) S0|.r=>K .r S0
def O2(i:Nat):(l:List (Bool×C))->re l->List Cap
 | [],_=>[]|(false,c)::r,x=>(match cells c x.1 with | [.sl c' xs]=>.vw i c' xs | [u]=>.t u|_=>.t .top)::O2 i r x.2
 |(true,c)::r,x=>.vp i (cells c x.1)::O2 i r x.2
def initK:Nat->List Nat->(ks:List PK)->A ks->St->St
 |_,_,[],_,S=>S|i,fs,.v c::ks,a,S=>initK (i+1) fs ks a.2 (S.KD i (shC c) ((cells c a.1).map (EN i)))|i,fs,.p c::ks,a,S=>initK (i+1) fs ks a.2 (S.KD i .one [.vp (.old i) (cells c a.1)])|i,fs,.b c::ks,a,S=>initK (i+1) fs ks a.2 (let S1:=(S.KD i .one [.bp i 0]).ON i ((cells c a.1).map (EN i));⟨S1.tm,S1.bx,i::S1.pin,S1.nv⟩)
 |i,fs,.o c::ks,a,S=>initK (i+1) fs ks a.2 (S.KD i (shC c) ((cells c a.1).map Jt))|i,fs,.m c::ks,a,S=>initK (i+1) fs ks a.2 (let S1:=S.KD i (shC c) ((cells c a.1).map Jt);⟨S1.tm,S1.bx,i::S1.pin,S1.nv⟩)
 |i,fs,.f _ l::ks,a,S=>initK (i+1) fs.tail ks a.2 (S.KD i .one [.fn (fs.headD 0) (O2 i l a.1)])
def MQ{ρ:Type}:List HU->St->(List (Option Nat)->List AT->Option ρ)->Option ρ
 | [],_,K=>K [] []|.tmp t::rs,S,K=>match S.rd (.tmp t) with
  |some e=>if GJ e.sh e.cs.length=true then MQ rs S fun ns ls=>K ((match e.sh with|.one=>none|_=>some e.cs.length)::ns) (e.cs++ls) else none
  |none=>none
 |.cell t n::rs,S,K=>match S.one (.tmp t) with|some (.bp id o)=>S.load (Dk n) (.bp id o) fun ls'=>MQ rs S fun ns ls=>K (n::ns) (ls'++ls)|_=>none
 |.bx _::_,_,_=>none|.vw _ _::_,_,_=>none|.un _ _::_,_,_=>none
def N7:List AT->Bool
 | []=>true|l::ls=>(match l with|.t x=>!Ro x|.vw (.old _) _ _=>true|_=>false)&&N7 ls
def ba(rk:RK)(rs:List HU)(S:St)(K:St->List U->Option ρ):Option ρ:=
 match rk,rs with
 |.ptr k _,[.bx t]=>match S.one (.tmp t) with
  |some (.bp id 0)=>match get S.bx id with
   |some ls=>if mem id S.pin=true then none else if DW ls.cs=k then match Fl k ls.cs with|some us=>K S us|none=>none else none
   |none=>none
  |_=>none
 |.vw k _,[.vw t k']=>if k'=k then match S.one (.tmp t) with
  |some (.vw (.old k'') c xs)=>if k''=k then K S [.sl c xs] else none|some (.al r sub)=>match S.at r with|some (.ow x)=>K (S.out r) [AF9 sub x]|_=>none
  |_=>none
  else none
 |.ret (.un n::c::cs),.un t n'::r::rs=>if n'=n then match S.one (.tmp t) with
  |some (.bp id o)=>S.load n (.bp id o) fun ls'=>if N7 ls'=true then MQ (r::rs) S fun ns ls=>if ns=(c::cs).map wC then match Di S ls with
   |some (S',us)=>K S' (List.replicate n .un++us)|none=>none
   else none
   else none
  |_=>none
  else none
 |.ret cs,rs=>MQ rs S fun ns ls=>if ns=cs.map wC then match Di S ls with
  |some (S',us)=>K S' us|none=>none
  else none
 |_,_=>none
def owT:AT->Option U|.ow x=>some x|.t x=>if Ro x=true then none else some x|_=>none
def bZ:List AT->Option (List U)
 | []=>some []|l::ls=>match owT l,bZ ls with|some x,some xs=>some (x::xs)|_,_=>none
def FI:Nat->List PK->St->Option (List U)
 |_,[],_=>some []|i,.b c::ks,S=>match get S.bx i,FI (i+1) ks S with
  |some ls,some os=>if mem i S.pin=true/\ls.cs.length=c.size then match Fl i ls.cs with|some us=>some (us++os)|none=>none else none
  |_,_=>none
 |i,.m c::ks,S=>match get S.tm i,FI (i+1) ks S with
  |some e,some os=>if mem i S.pin=true/\GJ e.sh e.cs.length=true/\e.cs.length=c.size then match bZ e.cs with|some us=>some (us++os)|none=>none else none
  |_,_=>none
 |i,_::ks,S=>FI (i+1) ks S
def Un:List C->Nat| []=>0|c::cs=>c.size+Un cs
def fin(ks:List PK)(rk:RK)(rs:List HU)(S:St):Option (Tu (rk.cs++La ks)):=
 ba rk rs S fun S' us=>match FI 0 ks S' with|some os=>if us.length=Un rk.cs then ofT (rk.cs++La ks) (us++os) else none|none=>none
end
structure YF where
 R:List GF
 ps:List PK
 fs:List Nat
 rk:RK
 rs:List HU
 body:Gn R
def YF.run(f:YF)(a:A f.ps):Option (Tu (f.rk.cs++La f.ps)):=
 (initK 0 f.fs f.ps a ⟨[],[],[],0⟩).Fu fun S=>HT f.body S fun e S=>match e with|.x _=>none|.n=>fin f.ps f.rk f.rs S|.r=>fin f.ps f.rk f.rs S
end Y
end Lv
namespace Lv
open Go (IntKind BinOp UnOp)
theorem FT:∀(c:C) (x:c.D),enc c x=(cells c x).map U.fg
 |.i,x=>rfl|.u,x=>rfl|.b,x=>rfl|.s,x=>rfl|.m,x=>rfl|.ki _,x=>rfl|.z,x=>rfl|.l c,xs=>rfl|.un n,x=>by simp only[enc,cells,List.map_replicate];rfl|.st n,x=>by
  match n,x with
  |0,x=>rfl|1,x=>rfl|2,x=>rfl|3,x=>rfl|4,x=>rfl|5,x=>rfl|6,x=>rfl|7,x=>rfl|8,x=>rfl|9,x=>rfl|10,x=>rfl|11,x=>rfl|12,x=>rfl|13,x=>rfl|14,x=>rfl|15,x=>rfl|16,x=>rfl|17,x=>rfl|_+18,x=>rfl
theorem ATz{u:U}{n:Int}(h:toI u=some n):u=.int .i64 n:=by
 cases u<;>simp[toI]at h
 grind
theorem AXn{u:U}{n:UInt8}(h:toU u=some n):u=.u8 n:=by cases u<;>simp[toU]at h;rw[h]
theorem AJk{u:U}{n:Bool}(h:AVu u=some n):u=.bool n:=by cases u<;>simp[AVu]at h;rw[h]
theorem AT1{u:U}{n:List UInt8}(h:toS u=some n):u=.str n:=by cases u<;>simp[toS]at h;rw[h]
theorem AXm{k:IntKind}{u:U}{n:Int}(h:toN k u=some n):u=.int k n:=by
 cases u<;>simp[toN]at h
 grind
theorem AXo{u:U}{n:Unit}(h:toZ u=some n):u=.nil:=by cases u<;>simp[toZ]at h;rfl
theorem AXl{u:U}{n:List (Int×Int)}(h:toM u=some n):u=.mp n:=by cases u<;>simp[toM]at h;rw[h]
theorem AT0{c:C}{u:U}{n:List c.D}(h:toL c u=some n):u=.sl c n:=by
 cases u<;>simp[toL]at h
 grind
theorem bind_eq{α β:Type}{o:Option α}{f:α->Option β}{r:β}(h:o.bind f=some r):∃x,o=some x/\f x=some r:=ob h
theorem Dt{α:Type}{us:List U}{K:Int->List U->Option α}{r:α}(h:gI us K=some r):∃a c,us=.int .i64 a::c/\K a c=some r:=by
 cases us with
 |nil=>cases h
 |cons u us=>obtain⟨a,e,h⟩:=bind_eq h;obtain rfl:=ATz e;exact⟨a,us,rfl,h⟩
theorem af{α:Type}{us:List U}{K:List UInt8->List U->Option α}{r:α}(h:gS us K=some r):∃a c,us=.str a::c/\K a c=some r:=by
 cases us with
 |nil=>cases h
 |cons u us=>obtain⟨a,e,h⟩:=bind_eq h;obtain rfl:=AT1 e;exact⟨a,us,rfl,h⟩
theorem AW2{α:Type}{us:List U}{K:Bool->List U->Option α}{r:α}(h:gBo us K=some r):∃a c,us=.bool a::c/\K a c=some r:=by
 cases us with
 |nil=>cases h
 |cons u us=>obtain⟨a,e,h⟩:=bind_eq h;obtain rfl:=AJk e;exact⟨a,us,rfl,h⟩
theorem Jq{α:Type}{c:C}{us:List U}{K:List c.D->List U->Option α}{r:α}(h:gL c us K=some r):∃a e,us=.sl c a::e/\K a e=some r:=by
 cases us with
 |nil=>cases h
 |cons u us=>obtain⟨a,j,g⟩:=bind_eq h;obtain rfl:=AT0 j;exact⟨a,us,rfl,g⟩
theorem LH{α:Type}{us:List U}{a r:α}(h:gE us a=some r):us=[]/\a=r:=by
 cases us with
 |nil=>exact⟨rfl,Option.some.inj h⟩|cons u us=>cases h
theorem ARr{us:List U}{x:B1}(h:ARq us=some x):AV7 x=us:=by
 grind[ARq,Dt,LH]
theorem AFQ{us:List U}{x:Ab}(h:vn us=some x):AGZ x=us:=by
 unfold vn at h;obtain⟨a0,g,rfl,a⟩:=Jq h;obtain⟨c,j,rfl,e⟩:=Dt a
 grind[Dt,LH]
theorem AFO{us:List U}{x:AQ}(h:vk us=some x):AGX x=us:=by
 unfold vk at h;obtain⟨a0,q,rfl,a⟩:=Dt h;obtain⟨e,y,rfl,c⟩:=Dt a;obtain⟨g,B,rfl,j⟩:=Dt c
 grind[Dt,LH]
theorem ACH{us:List U}{x:BE}(h:lQ us=some x):yP x=us:=by
 grind[lQ,Dt,LH]
theorem AFL{us:List U}{x:Ai}(h:vg us=some x):AGU x=us:=by
 grind[vg,Dt,LH]
theorem ARp{us:List U}{x:BO}(h:ARo us=some x):AV6 x=us:=by
 grind[ARo,Dt,LH]
theorem AFS{us:List U}{x:Aq}(h:vr us=some x):AGb x=us:=by
 grind[vr,Jq,LH]
theorem AFK{us:List U}{x:Ae}(h:vf us=some x):AGT x=us:=by
 unfold vf at h
 grind[Dt,Jq,LH]
theorem AFN{us:List U}{x:AE}(h:vj us=some x):AGW x=us:=by
 unfold vj at h;obtain⟨a0,L,rfl,a⟩:=Jq h;obtain⟨B,O,rfl,c⟩:=Dt a;obtain⟨E,Q,rfl,e⟩:=Dt c;obtain⟨a3,S,rfl,g⟩:=Dt e;obtain⟨a4,X,rfl,j⟩:=Dt g;obtain⟨G,Y,rfl,q⟩:=Dt j;obtain⟨H,Z,rfl,y⟩:=Dt q;obtain⟨I,u7,rfl,J⟩:=Dt y
 grind[Dt,Jq,LH]
theorem AKj{us:List U}{x:B0}(h:AFJ us=some x):AM7 x=us:=by
 grind[AFJ,af,Dt,LH]
theorem AFR{us:List U}{x:Bo}(h:vq us=some x):AGa x=us:=by
 grind[vq,af,Dt,LH]
theorem ACG{us:List U}{x:Af}(h:lP us=some x):yO x=us:=by
 unfold lP at h;obtain⟨a0,u0,rfl,I⟩:=Jq h;obtain⟨a1,u1,rfl,J⟩:=Dt I;obtain⟨a2,u2,rfl,O⟩:=Dt J;obtain⟨a3,u3,rfl,Q⟩:=Dt O;obtain⟨a4,u4,rfl,S⟩:=Dt Q;obtain⟨a5,u5,rfl,X⟩:=Dt S;obtain⟨a6,u6,rfl,Y⟩:=Dt X;obtain⟨a7,u7,rfl,Z⟩:=Dt Y;obtain⟨a8,u8,rfl,h8⟩:=Dt Z;obtain⟨a9,u9,rfl,h9⟩:=Dt h8;obtain⟨q,u10,rfl,a⟩:=Dt h9;obtain⟨y,u11,rfl,c⟩:=Jq a;obtain⟨B,u12,rfl,e⟩:=Jq c;obtain⟨E,u13,rfl,g⟩:=Jq e;obtain⟨G,u14,rfl,j⟩:=Jq g;obtain⟨H,u15,rfl,L⟩:=af j
 grind[Dt,af,Jq,LH]
theorem AFP{us:List U}{x:C6}(h:vm us=some x):AGY x=us:=by
 grind[vm,Dt,Jq,LH]
theorem AFT{us:List U}{x:Ux}(h:vt us=some x):AGc x=us:=by
 unfold vt at h;obtain⟨a0,u0,rfl,Z⟩:=Jq h;obtain⟨a1,u1,rfl,h1⟩:=Dt Z;obtain⟨a2,u2,rfl,h2⟩:=Dt h1;obtain⟨a3,u3,rfl,h3⟩:=Dt h2;obtain⟨a4,u4,rfl,h4⟩:=Dt h3;obtain⟨a5,u5,rfl,h5⟩:=Dt h4;obtain⟨a6,u6,rfl,h6⟩:=Dt h5;obtain⟨a7,u7,rfl,h7⟩:=Dt h6;obtain⟨a8,u8,rfl,h8⟩:=Dt h7;obtain⟨a9,u9,rfl,h9⟩:=Dt h8;obtain⟨G,u10,rfl,a⟩:=Dt h9;obtain⟨H,u11,rfl,c⟩:=Jq a;obtain⟨I,u12,rfl,e⟩:=Jq c;obtain⟨J,u13,rfl,g⟩:=Jq e;obtain⟨L,u14,rfl,j⟩:=Jq g;obtain⟨O,u15,rfl,q⟩:=af j;obtain⟨Q,u16,rfl,y⟩:=Dt q;obtain⟨S,u17,rfl,B⟩:=af y;obtain⟨X,u18,rfl,E⟩:=Dt B;obtain⟨Y,u19,rfl,h19⟩:=af E
 grind[Dt,Jq,LH]
theorem ARn{us:List U}{x:ADT}(h:ARm us=some x):AV5 x=us:=by
 unfold ARm at h;obtain⟨a0,g,rfl,a⟩:=Dt h;obtain⟨c,j,rfl,e⟩:=Dt a
 grind[Dt,Jq,LH]
theorem AFM{us:List U}{x:Bs}(h:vi us=some x):AGV x=us:=by
 grind[vi,Dt,af,LH]
theorem AFU{us:List U}{x:DX}(h:vu us=some x):AGd x=us:=by
 grind[vu,Jq,Dt,AW2,LH]
theorem AFV{us:List U}{x:AZ}(h:vz us=some x):AGe x=us:=by
 grind[vz,Jq,Dt,LH]
theorem AKk:∀{n:Nat} {us:List U} {x:tD n},ofS n us=some x->ADe n x=us
 |0,us,x,h=>ARr h|1,us,x,h=>AFQ h|2,us,x,h=>AFO h|3,us,x,h=>ACH h|4,us,x,h=>AFL h|5,us,x,h=>ARp h|6,us,x,h=>AFS h|7,us,x,h=>AFK h|8,us,x,h=>AFN h|9,us,x,h=>AKj h|10,us,x,h=>AFR h|11,us,x,h=>ACG h|12,us,x,h=>AFP h|13,us,x,h=>AFT h|14,us,x,h=>ARn h|15,us,x,h=>AFM h|16,us,x,h=>AFU h|17,us,x,h=>AFV h|_+18,us,x,h=>by cases h
theorem TI{α:Type}{us:List U}{f:U->Option α}{r:α}(h:of1 us f=some r):∃u,us=[u]/\f u=some r:=by
 match us,h with
 | [u],h=>exact⟨u,rfl,h⟩
theorem ADH:∀{n:Nat} {us:List U} {x:Unit},M5 n us=some x->us=List.replicate n .un|0,[],_,_=>rfl|n+1,.un::us,x,h=>by rw[List.replicate_succ,<-ADH (n:=n) (x:=x) (by simpa only[M5] using h)]|0,_::_,_,h=>by simp[M5]at h|n+1,[],_,h=>by simp[M5]at h|n+1,.int _ _::_,_,h=>by simp[M5]at h|n+1,.top::_,_,h=>by simp[M5]at h|n+1,.u8 _::_,_,h=>by simp[M5]at h|n+1,.bool _::_,_,h=>by simp[M5]at h|n+1,.str _::_,_,h=>by simp[M5]at h|n+1,.nil::_,_,h=>by simp[M5]at h|n+1,.np::_,_,h=>by simp[M5]at h|n+1,.sl _ _::_,_,h=>by simp[M5]at h|n+1,.mp _::_,_,h=>by simp[M5]at h
theorem Zl:∀{c:C} {us:List U} {x:c.D},ofC c us=some x->cells c x=us
 |.i,us,x,h=>by obtain⟨u,rfl,h⟩:=TI h;obtain rfl:=ATz h;rfl
 |.u,us,x,h=>by obtain⟨u,rfl,h⟩:=TI h;obtain rfl:=AXn h;rfl
 |.b,us,x,h=>by obtain⟨u,rfl,h⟩:=TI h;obtain rfl:=AJk h;rfl
 |.s,us,x,h=>by obtain⟨u,rfl,h⟩:=TI h;obtain rfl:=AT1 h;rfl
 |.ki k,us,x,h=>by obtain⟨u,rfl,h⟩:=TI h;obtain rfl:=AXm h;rfl
 |.m,us,x,h=>by obtain⟨u,rfl,h⟩:=TI h;obtain rfl:=AXl h;rfl
 |.z,us,x,h=>by obtain⟨u,rfl,h⟩:=TI h;obtain rfl:=AXo h;rfl
 |.l c,us,x,h=>by obtain⟨u,rfl,h⟩:=TI h;obtain rfl:=AT0 h;rfl
 |.st n,us,x,h=>AKk h|.un n,us,x,h=>(ADH (show M5 n us=some x from h)).symm
theorem Ik{c:C}{us:List U}{x:c.D}(h:ofC c us=some x):enc c x=us.map U.fg:=by rw[FT,Zl h]
theorem Ye:∀(c:C) (x:c.D),(cells c x).length=c.size
 |.i,x=>rfl|.u,x=>rfl|.b,x=>rfl|.s,x=>rfl|.m,x=>rfl|.ki _,x=>rfl|.z,x=>rfl|.l c,xs=>rfl|.un n,x=>List.length_replicate|.st n,x=>by
  match n,x with
  |0,x=>rfl|1,x=>rfl|2,x=>rfl|3,x=>rfl|4,x=>rfl|5,x=>rfl|6,x=>rfl|7,x=>rfl|8,x=>rfl|9,x=>rfl|10,x=>rfl|11,x=>rfl|12,x=>rfl|13,x=>rfl|14,x=>rfl|15,x=>rfl|16,x=>rfl|17,x=>rfl|_+18,x=>rfl
theorem OZ(c:C)(x:c.D):(enc c x).length=c.size:=by rw[FT,An,Ye]
theorem AVJ{c:C}{us:List U}{x:c.D}(h:ofC c us=some x):us.length=c.size:=by rw[<-Zl h,Ye]
def Cap.fg:Cap->AT|.t x=>.t x.fg|.vw k c xs=>.vw (.old k) c.size (xs.map (enc c))|.vp k cs=>.vp (.old k) (cs.map U.fg)|.bp id off=>.bp id off
namespace Y
section
variable(R:List GF)
def xr(n:Nat):CI:=match R[n]? with|some g=>g.x|none=>.Mj 0 []
def M3(rows:List (List T)):List (Nat×Nat)->List (List T)| []=>rows|(i,j)::hs=>M3 (JA rows i j .top) hs
def AT.fg:AT->Lv.AT|.t x=>.t x.fg|.und=>.und|.ow x=>.ow x.fg|.owh c xs hs=>.ow (.sl c.size (M3 (xs.map (enc c)) hs))|.al r sub=>.al r sub|.ep r i j=>.ep r i.toNat j|.vw s c xs=>.vw s c.size (xs.map (enc c))|.vp s cs=>.vp s (cs.map U.fg)|.bp id off=>.bp id off|.fn n caps=>.fn (xr R n) (caps.map Cap.fg)
def Ent.fg(e:Ent):Lv.Ent:=⟨e.sh,e.cs.map (AT.fg R)⟩
def En.fg(e:En):Lv.Ent:=⟨e.sh,e.cs.map (AT.fg R)⟩
def fgE(l:List (Nat×Ent)):List (Nat×Lv.Ent):=l.map fun p=>(p.1,p.2.fg R)
def fgB(l:List (Nat×Bx)):List (Nat×List Lv.AT):=l.map fun p=>(p.1,p.2.cs.map (AT.fg R))
def St.fg(S:St):Lv.St:=⟨fgE R S.tm,fgB R S.bx,S.pin⟩
theorem mem_iff{k:Nat}{ks:List Nat}:mem k ks=true↔k∈ks:=by
 induction ks with
 |nil=>simp[mem]|cons x xs a=>
  simp only[mem,List.mem_cons];by_cases h:k=x
  .subst h;simp
  grind[Nat.beq,Nat.eq_of_beq_eq_true]
theorem NZ{k:Nat}{ks:List Nat}:mem k ks=false↔k∉ks:=by
 rw[<-mem_iff];cases mem k ks<;>simp
theorem beq_true{a b:Nat}(h:Nat.beq a b=true):a=b:=IL h
theorem beq_false{a b:Nat}(h:Nat.beq a b=false):a≠b:=Hy h
theorem get_eq{α:Type}:∀(l:List (Nat×α)) (k:Nat),get l k=Lv.get l k
 | [],_=>rfl|(j,a)::r,k=>by
  simp only[get,Lv.get];cases h:Nat.beq j k with
  |true=>rw[AX (beq_true h)]|false=>rw[AU (beq_false h),get_eq r k]
theorem AFo{α:Type}:∀(l:List (Nat×α)) (k:Nat) (a:α),put l k a=Lv.put l k a
 | [],_,_=>rfl|(j,b)::r,k,a=>by
  simp only[put,Lv.put];cases h:Nat.beq k j with
  |true=>rw[AX (beq_true h)]|false=>
   rw[AU (beq_false h)];have g:=beq_false h;cases c:Nat.ble k j with
   |true=>have:=Nat.le_of_ble_eq_true c;rw[AX (by omega)]
   |false=>have:¬k<=j:=fun e=>by rw[Nat.ble_eq_true_of_le e]at c;cases c
           rw[AU (by omega),AFo r k a]
theorem jl{α:Type}(ks:List Nat):∀(l:List (Nat×α)),Jo ks l=Lv.Jo ks l
 | []=>rfl|(j,b)::r=>by
  simp only[Jo,Lv.Jo];cases h:mem j ks with
  |true=>rw[AX (mem_iff.1 h),jl ks r]|false=>rw[AU (NZ.1 h),jl ks r]
theorem ZX{α:Type}(ks:List Nat):∀(l:List (Nat×α)),Gg ks l=Lv.Gg ks l
 | []=>rfl|(j,b)::r=>by
  simp only[Gg,Lv.Gg];cases h:mem j ks with
  |true=>rw[AX (mem_iff.1 h),ZX ks r]|false=>rw[AU (NZ.1 h),ZX ks r]
theorem get_map{α β:Type}(f:α->β):∀(l:List (Nat×α)) (k:Nat),Lv.get (l.map fun p=>(p.1,f p.2)) k=(Lv.get l k).map f
 | [],_=>rfl|(j,a)::r,k=>by
  simp only[AJ,Lv.get];by_cases h:j=k
  .simp[h]
  .simp[h,get_map f r k]
theorem w8{α β:Type}(f:α->β):∀(l:List (Nat×α)) (k:Nat) (a:α),Lv.put (l.map fun p=>(p.1,f p.2)) k (f a)=(Lv.put l k a).map fun p=>(p.1,f p.2)
 | [],_,_=>rfl|(j,b)::r,k,a=>by
  simp only[AJ,Lv.put];by_cases h:k=j
  .simp[h]
  .by_cases c:k<j
   .simp[h,c]
   .simp[h,c,w8 f r k a]
theorem Yy{α β:Type}(f:α->β)(ks:List Nat):∀(l:List (Nat×α)),Lv.Jo ks (l.map fun p=>(p.1,f p.2))=(Lv.Jo ks l).map fun p=>(p.1,f p.2)
 | []=>rfl|(j,b)::r=>by
  simp only[AJ,Lv.Jo];by_cases h:j∈ks
  .simp[h,Yy f ks r]
  .simp[h,Yy f ks r]
theorem Q4{α β:Type}(f:α->β)(ks:List Nat):∀(l:List (Nat×α)),Lv.Gg ks (l.map fun p=>(p.1,f p.2))=(Lv.Gg ks l).map fun p=>(p.1,f p.2)
 | []=>rfl|(j,b)::r=>by
  simp only[AJ,Lv.Gg];by_cases h:j∈ks
  .simp[h,Q4 f ks r]
  .simp[h,Q4 f ks r]
variable {R}
theorem XJ(S:St)(k:Nat):Lv.get (S.fg R).tm k=(get S.tm k).map (Ent.fg R):=by rw[get_eq];exact get_map (Ent.fg R) S.tm k
theorem Pz(S:St)(k:Nat):Lv.get (S.fg R).bx k=(get S.bx k).map (fun b=>b.cs.map (AT.fg R)):=by rw[get_eq];exact get_map (fun b:Bx=>b.cs.map (AT.fg R)) S.bx k
end
end Y
end Lv
namespace Lv
open Go (IntKind BinOp UnOp)
namespace Y
section
variable{R:List GF}
theorem CD.ARS(r r':CD):CD.is r r'=decide (r=r'):=by
 have c:∀a b:Nat,Nat.beq a b=decide (a=b):=fun a b=>by
  grind[Nat.beq,beq_true,beq_false]
 cases r<;>cases r'<;>simp only[CD.is,CD.tmp.injEq,CD.cell.injEq,reduceCtorEq,decide_false]
 .grind
 grind
theorem ZU(o:Option CD)(r:CD):isR o r=decide (o=some r):=by
 cases o with
 |none=>simp[isR]|some q=>simp[isR,CD.ARS]
theorem Qf(a b:Nat):Nat.beq a b=decide (a=b):=by
 grind[Nat.beq,beq_true,beq_false]
theorem AW6(o:Option Nat)(r:Nat):isN o r=decide (o=some r):=by
 cases o with
 |none=>simp[isN]|some q=>simp[isN,Qf]
theorem T1(k:Nat)(ks:List Nat):mem k ks=decide (k∈ks):=by
 grind[mem,mem_iff,NZ]
@[simp] theorem Kw(l:AT):(AT.fg R l).Bz=l.Bz:=by
 cases l<;>try rfl
 .rename_i s c xs;cases s<;>rfl
 .rename_i s cs;cases s<;>rfl
@[simp] theorem AM3(l:AT):(AT.fg R l).Lw=l.Lw:=by
 cases l<;>try rfl
 .rename_i r sub;cases r<;>rfl
 .rename_i r i j;cases r<;>rfl
 .rename_i s c xs;cases s with
  |own r p=>cases r<;>rfl
  |old k=>rfl
 .rename_i s cs;cases s with
  |own r p=>cases r<;>rfl
  |old k=>rfl
@[simp] theorem ADc(l:Cap):l.fg.Lw=l.Lw:=by cases l<;>rfl
theorem aF(l:Cap):AT.fg R l.leaf=l.fg:=by cases l<;>rfl
theorem AKm(r:CD)(l:AT):Lv.LZ r (AT.fg R l)=LZ r l:=by simp[Lv.LZ,LZ,ZU]
theorem RC(r:CD)(l:AT):Lv.FW r (AT.fg R l)=FW r l:=by
 cases l<;>try rfl
 .rename_i s c xs;cases s with|own r p=>simp[AT.fg,Lv.FW,FW,CD.ARS]|old k=>rfl
 .rename_i s cs;cases s with|own r p=>simp[AT.fg,Lv.FW,FW,CD.ARS]|old k=>rfl
theorem Xh(d:Nat)(l:AT):Lv.E1 d (AT.fg R l)=E1 d l:=by
 grind[Lv.E1,E1,Kw,Qf]
theorem Xg(d:Nat)(l:AT):Lv.Fp d (AT.fg R l)=Fp d l:=by
 have h:=AM3 (R:=R) l;cases l<;>simp only[AT.fg]at h ⊢ <;> simp only[Lv.Fp,Fp,AW6]<;>first|rw[h]|skip
 simp[HX,Function.comp_def]
theorem AXR(ks:List Nat)(o:Option Nat):(match o with|some d=>decide (d∉ks)|none=>false)=(match o with|some d=>!mem d ks|none=>false):=by
 grind[T1]
theorem AKl(ks:List Nat)(l:AT):Lv.LY ks (AT.fg R l)=LY ks l:=by
 have h:=AM3 (R:=R) l;cases l with
 |fn n caps=>
  simp only[AT.fg,Lv.LY,LY,HX,Function.comp_def,ADc];congr 1;funext x;exact AXR ks _
 |_=>
  grind[AT.fg,Lv.LY,LY,AT.Lw,T1]
theorem lN(ks:List Nat)(l:AT):Lv.Ij ks (AT.fg R l)=Ij ks l:=by
 grind[Lv.Ij,Ij,Kw,AKl,T1]
theorem AI5(ks:List Nat)(l:AT):Lv.ZR ks (AT.fg R l)=ZR ks l:=by
 grind[Lv.ZR,ZR,Kw,T1]
theorem MK{q:AT->Bool}{q':Lv.AT->Bool}(a:∀l,q' (AT.fg R l)=q l):∀ls,Lv.ES q' (ls.map (AT.fg R))=(ES q ls).map (AT.fg R)
 | []=>rfl|l::ls=>by
  simp only[AJ,Lv.ES,ES,a,MK a ls];cases q l<;>rfl
theorem VM{q:AT->Bool}:∀{ls:List AT},ls.any q=false->ES q ls=ls
 | [],_=>rfl|l::ls,h=>by
  simp only[List.any_cons,Bool.or_eq_false_iff]at h;simp only[ES,h.1,Bool.false_eq_true,if_false,VM h.2]
theorem Xe{q:AT->Bool}{q':Lv.AT->Bool}(a:∀l,q' (AT.fg R l)=q l)(v:Nat):∀ls,Lv.LJ q' (fgE R ls)=fgE R (LJ v q ls)
 | []=>rfl|(k,e)::ls=>by
  have c:=Xe a v ls;simp only[fgE,AJ,Lv.LJ,LJ]at c ⊢;rw[c];congr 2;simp only[Ent.fg];cases h:e.cs.any q with
  |true=>simp only[if_true,MK a]|false=>rw[AU (by simp),MK a,VM h]
theorem Xd{q:AT->Bool}{q':Lv.AT->Bool}(a:∀l,q' (AT.fg R l)=q l)(v:Nat):∀ls,Lv.LI q' (fgB R ls)=fgB R (LI v q ls)
 | []=>rfl|(k,e)::ls=>by
  have c:=Xd a v ls;simp only[fgB,AJ,Lv.LI,LI]at c ⊢;rw[c];congr 2;cases h:e.cs.any q with
  |true=>simp only[if_true,MK a]|false=>rw[AU (by simp),MK a,VM h]
theorem Ko{q:AT->Bool}{q':Lv.AT->Bool}(a:∀l,q' (AT.fg R l)=q l)(S:St):(S.fg R).kill q'=(S.kill q).fg R:=by
 simp only[St.fg,Lv.St.kill,St.kill,Xe a S.nv,Xd a S.nv]
theorem Lp(S:St)(d:Nat)(sh:Sh)(cs:List AT):(S.KD d sh cs).fg R={ S.fg R with tm:=Lv.put (S.fg R).tm d ⟨sh,cs.map (AT.fg R)⟩}:=by
 simp only[St.fg,St.KD,AFo,fgE];rw[<-w8 (Ent.fg R)];rfl
theorem T9(S:St)(d:Nat)(cs:List AT):(S.ON d cs).fg R={ S.fg R with bx:=Lv.put (S.fg R).bx d (cs.map (AT.fg R))}:=by
 simp only[St.fg,St.ON,AFo,fgB];rw[<-w8 (fun b:Bx=>b.cs.map (AT.fg R))]
theorem ABc(S:St)(ks:List Nat):(S.IS ks).fg R=(S.fg R).IS ks:=by
 simp only[St.fg,Lv.St.IS,St.IS,jl];rw[<-Xe (AI5 ks),<-Xd (AI5 ks)];simp only[fgE];rw[<-Yy]
theorem Vx(S:St)(ks:List Nat):(S.clean ks).fg R=(S.fg R).clean ks:=by
 simp only[St.fg,Lv.St.clean,St.clean,ZX];rw[<-Xe (lN ks),<-Xd (lN ks)];simp only[fgE,fgB];rw[<-Q4,<-Q4 (fun b:Bx=>b.cs.map (AT.fg R))]
theorem Jm(S:St)(r:CD):(S.fg R).at r=(S.at r).map (AT.fg R):=by
 cases r with
 |tmp s c=>
  grind[Lv.St.at,St.at,XJ,get,Ent.fg]
 |cell s c=>
  grind[Lv.St.at,St.at,Pz,get]
theorem Gk(S:St)(r:CD)(l:AT):(S.Bi r l).fg R=(S.fg R).Bi r (AT.fg R l):=by
 cases r with
 |tmp s c=>
  simp only[Lv.St.Bi,St.Bi,XJ];cases h:get S.tm s with
  |none=>rfl|some e=>simp[Lp,Ent.fg]
 |cell s c=>
  simp only[Lv.St.Bi,St.Bi,Pz];cases h:get S.bx s with
  |none=>rfl|some e=>simp[T9]
theorem ADr{l:AT}:AT.fg R l=.t .nil↔l=.t .nil:=by
 cases l<;>simp[AT.fg];rename_i x;cases x<;>simp[U.fg]
theorem AXO(S:St)(r:CD)(c:C):AT.fg R (S.nl0 r c)=(S.fg R).nl0 r c.size:=by
 cases r with
 |tmp s k=>rfl|cell id k=>
  simp only[St.nl0,Lv.St.nl0,T1];have a:(S.fg R).pin=S.pin:=rfl
  grind[AT.fg,U.fg]
def Rw.fg:Rw->List (List T)|.nl=>[]|.of c xs=>xs.map (enc c)
theorem U1{x:U}{w:Rw}(h:content x=some w):Lv.content x.fg=some w.fg:=by
 cases x<;>simp[content]at h<;>subst h<;>rfl
theorem Z4{α β:Type}(f:α->β)(sub:Option (Nat×Nat))(xs:List α):(mf sub xs).map f=mf sub (xs.map f):=by
 cases sub with
 |none=>rfl|some p=>simp[mf]
theorem xg(sub:Option (Nat×Nat))(xs:List (List T)):Jg sub xs=mf sub xs:=by cases sub<;>rfl
theorem ATh(sub:Option (Nat×Nat))(w:Rw):(w.sub sub).fg=Jg sub w.fg:=by
 cases w with
 |nl=>cases sub<;>simp[Rw.sub,Rw.fg,Jg]
 |of c xs=>simp only[Rw.sub,Rw.fg,Z4,xg]
theorem dK{c:C}{w:Rw}{ys:List c.D}(h:w.as c=some ys):w.fg=ys.map (enc c):=by
 cases w with
 |nl=>cases h;rfl
 |of e xs=>
  simp only[Rw.as]at h;split at h
  .rename_i a;subst a;cases h;rfl
  .cases h
theorem YL(sub:Option (Nat×Nat))(x:U):(AF9 sub x).fg=nU sub x.fg:=by
 cases x<;>try rfl
 simp only[AF9,U.fg,nU,Z4,xg]
theorem Px{S:St}{l:AT}{w:Rw}(h:S.elems l=some w):(S.fg R).elems (AT.fg R l)=some w.fg:=by
 unfold St.elems at h;split at h
 .grind[AT.fg,Lv.St.elems,Jm,U1,ATh]
 .cases h;rfl
 .cases h;rfl
 .cases h
theorem AWb(s c:Nat)(l:AT):AT.fg R (l.ali s c)=(AT.fg R l).ali s c:=by cases l<;>rfl
theorem rp(s:Nat):∀(c:Nat) (ls:List AT),(R9 s c ls).map (AT.fg R)=Lv.R9 s c (ls.map (AT.fg R))|_,[]=>rfl|c,l::ls=>by simp only[R9,AJ,Lv.R9,AWb,rp s (c+1) ls]
theorem AGL(b:Nat):∀(c:Nat) (ls:List AT),(Qc b c ls).map (AT.fg R)=Lv.Qc b c (ls.map (AT.fg R))
 |_,[]=>rfl|c,l::ls=>by
  have a:=AGL b (c+1) ls;cases l<;>simp only[Qc,AJ,AT.fg,Lv.Qc,a]
theorem ARY(x:U):AT.fg R (qN x)=Lv.qN x.fg:=by cases x<;>rfl
def YO.er(R:List GF):YO->Opd|.tmp t=>.tmp t|.k x=>.k x.fg|.fn n=>.fn (xr R n)
theorem LL{S:St}{x:YO}{e:En}(h:S.rd x=some e):(S.fg R).rd (x.er R)=some (e.fg R):=by
 cases x with
 |tmp s=>
  grind[St.rd,YO.er,Lv.St.rd,XJ,get,Ent.fg,En.fg,rp]
 |k x=>cases h;simp[YO.er,Lv.St.rd,En.fg,ARY]
 |fn n=>cases h;rfl
theorem Zs{S:St}:∀{xs:List YO} {es:List En},S.rds xs=some es->(S.fg R).rds (xs.map (YO.er R))=some (es.map (En.fg R))
 | [],es,h=>by cases h;rfl
 |x::xs,es,h=>by
  simp only[St.rds]at h;split at h
  .rename_i e a c g;cases h;simp only[AJ,Lv.St.rds,LL c,Zs g]
  .cases h
structure BV(S S':St):Prop where
 nv:S.nv<=S'.nv
 tm:∀k e,get S'.tm k=some e->e.ver<S.nv->get S.tm k=some e
 bx:∀k e,get S'.bx k=some e->e.ver<S.nv->get S.bx k=some e
 pin:S'.pin=S.pin
theorem BV.refl(S:St):BV S S:=⟨Nat.le_refl _,fun _ _ h _=>h,fun _ _ h _=>h,rfl⟩
theorem BV.trans{S S' S2:St}(h:BV S S')(c:BV S' S2):BV S S2:=
 ⟨Nat.le_trans h.nv c.nv,fun k e g a=>h.tm k e (c.tm k e g (BR a h.nv)) a,fun k e g a=>h.bx k e (c.bx k e g (BR a h.nv)) a,c.pin.trans h.pin⟩
theorem Fv{α:Type}(l:List (Nat×α))(k j:Nat)(a:α):get (put l k a) j=if j=k then some a else get l j:=by
 induction l with
 |nil=>
  by_cases h:j=k
  .subst h;simp[put,get]
  grind[put,get,Nat.beq,beq_true]
 |cons p r c=>
  grind[put,Nat.beq,beq_true,get,beq_false,Nat.ble]
theorem BV.KD(S:St)(d:Nat)(sh:Sh)(cs:List AT):BV S (S.KD d sh cs):=by
 refine⟨by simp[St.KD],fun k e a c=>?_,fun k e a _=>a,rfl⟩
 grind[St.KD,Fv]
theorem BV.ON(S:St)(d:Nat)(cs:List AT):BV S (S.ON d cs):=by
 refine⟨by simp[St.ON],fun k e a _=>a,fun k e a c=>?_,rfl⟩
 grind[St.ON,Fv]
theorem FE{v:Nat}{q:AT->Bool}:∀{l:List (Nat×Ent)} {k:Nat} {e:Ent},get (LJ v q l) k=some e->e.ver<v->get l k=some e
 | [],_,_,h,_=>h|(i,b)::r,k,e,h,c=>by
  simp only[LJ,get]at h ⊢;cases a:Nat.beq i k with
  |true=>
   grind[Option.some.injEq]
  |false=>rw[a]at h;exact FE h c
theorem DL{v:Nat}{q:AT->Bool}:∀{l:List (Nat×Bx)} {k:Nat} {e:Bx},get (LI v q l) k=some e->e.ver<v->get l k=some e
 | [],_,_,h,_=>h|(i,b)::r,k,e,h,c=>by
  simp only[LI,get]at h ⊢;cases a:Nat.beq i k with
  |true=>
   grind[Option.some.injEq]
  |false=>rw[a]at h;exact DL h c
theorem LU{α:Type}{ks:List Nat}:∀{l:List (Nat×α)} {k:Nat} {e:α},get (Jo ks l) k=some e->get l k=some e
 | [],_,_,h=>h|(i,b)::r,k,e,h=>by
  simp only[Jo]at h;simp only[get];cases y:mem i ks with
  |true=>
   rw[y]at h;cases a:Nat.beq i k with
   |true=>
    have q:=beq_true a;subst q;exfalso;have:∀(l:List (Nat×α)) (e:α),get (Jo ks l) i≠some e:=by
     intro l
     induction l with
     |nil=>intro e h;cases h
     |cons p r E=>
      intro e h;obtain⟨j,c⟩:=p;simp only[Jo]at h;cases g:mem j ks with
      |true=>rw[g]at h;exact E e h|false=>
       rw[g]at h;simp only[get]at h;cases B:Nat.beq j i with
       |true=>have:=beq_true B;subst this;rw[y]at g;cases g
       |false=>rw[B]at h;exact E e h
    exact this r e h
   |false=>exact LU h
  |false=>
   rw[y]at h;simp only[get]at h;cases a:Nat.beq i k with
   |true=>rw[a]at h;exact h|false=>rw[a]at h;exact LU h
theorem HH{α:Type}{ks:List Nat}:∀{l:List (Nat×α)} {k:Nat} {e:α},get (Gg ks l) k=some e->get l k=some e
 | [],_,_,h=>h|(i,b)::r,k,e,h=>by
  simp only[Gg]at h;simp only[get];cases y:mem i ks with
  |false=>
   rw[y]at h;cases a:Nat.beq i k with
   |true=>
    have q:=beq_true a;subst q;exfalso;have:∀(l:List (Nat×α)) (e:α),get (Gg ks l) i≠some e:=by
     intro l
     induction l with
     |nil=>intro e h;cases h
     |cons p r E=>
      intro e h;obtain⟨j,c⟩:=p;simp only[Gg]at h;cases g:mem j ks with
      |false=>rw[g]at h;exact E e h|true=>
       rw[g]at h;simp only[get]at h;cases B:Nat.beq j i with
       |true=>have:=beq_true B;subst this;rw[y]at g;cases g
       |false=>rw[B]at h;exact E e h
    exact this r e h
   |false=>exact HH h
  |true=>
   rw[y]at h;simp only[get]at h;cases a:Nat.beq i k with
   |true=>rw[a]at h;exact h|false=>rw[a]at h;exact HH h
theorem BV.kill(S:St)(q:AT->Bool):BV S (S.kill q):=
 ⟨by simp[St.kill],fun _ _ a c=>FE a c,fun _ _ a c=>DL a c,rfl⟩
theorem BV.IS(S:St)(ks:List Nat):BV S (S.IS ks):=
 ⟨by simp[St.IS],fun _ _ a c=>LU (FE a c),fun _ _ a c=>DL a c,rfl⟩
theorem BV.clean(S:St)(ks:List Nat):BV S (S.clean ks):=
 ⟨by simp[St.clean],fun _ _ a c=>HH (FE a c),fun _ _ a c=>HH (DL a c),rfl⟩
theorem BV.Bi(S:St)(r:CD)(l:AT):BV S (S.Bi r l):=by
 cases r<;>simp only[St.Bi]<;>split<;>first|exact BV.KD _ _ _ _|exact BV.ON _ _ _|exact BV.refl _
theorem BV.out(S:St)(r:CD):BV S (S.out r):=(BV.Bi _ _ _).trans (BV.kill _ _)
theorem BV.Zj(S:St)(r:CD)(c:C):BV S (S.Zj r c):=by
 unfold St.Zj St.turn
 repeat' split
 all_goals first|exact BV.refl _|exact BV.Bi _ _ _|exact((BV.out _ _).trans (BV.Bi _ _ _)).trans (BV.Bi _ _ _)
theorem BV.RA:∀(ns:List (CD×C)) (S:St),BV S (S.RA ns)| [],S=>BV.refl S|(r,c)::ns,S=>(BV.Zj S r c).trans (BV.RA ns _)
theorem GU{γ:Type}(n:Nat)(K:Nat->γ):DP n K=K n:=by cases n<;>rfl
theorem U.E5{γ:Type}(x:U)(K:U->γ):x.Fu K=K x:=by cases x<;>rfl
theorem jz{γ:Type}:∀(xs:List U) (K:List U->γ),cR xs K=K xs| [],K=>rfl|x::xs,K=>by simp only[cR,U.E5,jz xs]
theorem pw{γ:Type}(r:CD)(K:CD->γ):jx r K=K r:=by cases r<;>simp only[jx,GU]
theorem ABk{γ:Type}(r:Src)(K:Src->γ):Sq r K=K r:=by
 cases r with
 |own r p=>simp only[Sq,pw];cases p with|none=>rfl|some p=>obtain⟨i,j⟩:=p;simp only[GU]
 |old k=>simp only[Sq,GU]
theorem AT.E5{γ:Type}(x:AT)(K:AT->γ):x.Fu K=K x:=by
 cases x<;>simp only[AT.Fu,U.E5,pw,GU,ABk,jz]
 grind
theorem Qq{γ:Type}:∀(xs:List AT) (K:List AT->γ),Tw xs K=K xs| [],K=>rfl|x::xs,K=>by simp only[Tw,AT.E5,Qq xs]
theorem VA{γ:Type}:∀(xs:List (Option Nat)) (K:List (Option Nat)->γ),Tx xs K=K xs| [],K=>rfl|none::xs,K=>by simp only[Tx,VA xs]|some n::xs,K=>by simp only[Tx,GU,VA xs]
theorem jy{γ:Type}(x:Sh)(K:Sh->γ):cQ x K=K x:=by cases x<;>simp only[cQ,VA,GU]
theorem pq{γ:Type}:∀(xs:List (Nat×Ent)) (K:List (Nat×Ent)->γ),tP xs K=K xs| [],K=>rfl|(k,⟨sh,cs,v⟩)::xs,K=>by simp only[tP,jy,Qq,GU,pq xs]
theorem po{γ:Type}:∀(xs:List (Nat×Bx)) (K:List (Nat×Bx)->γ),tO xs K=K xs| [],K=>rfl|(k,⟨cs,v⟩)::xs,K=>by simp only[tO,Qq,GU,po xs]
theorem pt{γ:Type}:∀(xs:List Nat) (K:List Nat->γ),tQ xs K=K xs| [],K=>rfl|k::xs,K=>by simp only[tQ,pt xs]
theorem E5{γ:Type}(S:St)(K:St->γ):S.Fu K=K S:=by
 obtain⟨tm,bx,pin,nv⟩:=S;simp only[St.Fu,pq,po,pt,GU]
theorem AJP{α γ:Type}(s:Nat)(a:α):∀(l:List (Nat×α)) (K:List (Nat×α)->γ),AVV s a l K=K (put l s a)
 | [],K=>rfl|(k,b)::r,K=>by
  simp only[AVV,put];cases Nat.beq s k with
  |true=>rfl|false=>cases Nat.ble s k with|true=>rfl|false=>simp only[AJP s a r]
variable{ρ:Type}
theorem ch{S:St}{d:Nat}{sh:Sh}{cs:List AT}{K:St->Option ρ}{r:ρ}(h:HV S d sh cs K=some r) :
 ∃S',(S.fg R).D9 d ⟨sh,cs.map (AT.fg R)⟩=some (S'.fg R)/\BV S S'/\K S'=some r:=by
 unfold HV at h;cases c:mem d S.pin with
 |true=>rw[c]at h;cases h
 |false=>
  rw[c]at h;have g:d∉(S.fg R).pin:=NZ.1 c;cases a:get S.tm d with
  |none=>
   rw[a]at h;simp only[jy,Qq,GU,AJP]at h;refine⟨S.KD d sh cs,?_,BV.KD _ _ _ _,h⟩
   grind[Lp,Lv.St.D9,XJ]
  |some e=>
   rw[a]at h;simp only[E5]at h;refine⟨_,?_,(BV.kill _ _).trans (BV.KD _ _ _ _),h⟩;unfold Lv.St.D9;rw[AU g,XJ,a,Lp,<-Ko (Xh d),<-MK (Xh d)];rfl
end
end Y
end Lv
namespace Lv
open Go (IntKind BinOp UnOp)
namespace Y
section
variable{R:List GF}
theorem AU5(l:AT):Lv.vS (AT.fg R l)=vS l:=by cases l<;>rfl
theorem ATQ(a b:Option CD):(match a with|some r=>isR b r|none=>b.isNone)=decide (a=b):=by
 cases a with
 |none=>cases b<;>simp
 |some r=>simp only[ZU];rw[decide_eq_decide];exact eq_comm
theorem rT:∀ls:List AT,Lv.OK (ls.map (AT.fg R))=OK ls
 | []=>rfl|l::ls=>by
  simp only[AJ,Lv.OK,OK,rT ls,Mo,Function.comp_def,AU5,Kw];congr 1;refine congrArg (fun f=>List.all ls f) (funext fun l'=>?_);rw[<-ATQ]<;>(cases l.Bz<;>rfl)
theorem VS(S:St)(r:CD):(S.out r).fg R=(S.fg R).out r:=by
 unfold St.out Lv.St.out;rw[<-Ko (AKm r),Gk];rfl
theorem AVv(S:St)(r:CD):(S.turn r).fg R=(S.fg R).turn r:=by
 unfold St.turn Lv.St.turn;rw[Jm];cases h:S.at r with
 |none=>rfl|some l=>
  cases l with
  |al r' sub=>
   cases sub with
   |none=>
    simp only[Ar,AT.fg];rw[Jm];cases a:S.at r' with
    |none=>rfl|some l'=>cases l'<;>simp[AT.fg,Gk,VS]
   |some p=>rfl
  |_=>rfl
theorem AVH(S:St)(r:CD)(c:C):(S.Zj r c).fg R=(S.fg R).Zj r c.size:=by
 unfold St.Zj Lv.St.Zj;cases a:Nat.beq c.size 0 with
 |true=>rw[AX (IL a)];exact AVv S r|false=>
  rw[AU (Hy a),Jm];cases h:S.at r with
  |none=>rfl|some l=>grind[AT.fg,U.fg,Gk,AXO,ADr]
theorem va:∀(ns:List (CD×C)) (S:St),(S.RA ns).fg R=(S.fg R).RA (ns.map fun p=>(p.1,p.2.size))| [],S=>rfl|(r,c)::ns,S=>by simp only[St.RA,AJ,Lv.St.RA];rw[va ns,AVH]
theorem mj:∀{ls:List AT} {S S':St} {ls':List AT},Jw S ls=some (S',ls')->Lv.Jw (S.fg R) (ls.map (AT.fg R))=some (S'.fg R,ls'.map (AT.fg R))/\BV S S'
 | [],S,S',ls',h=>by cases h;exact⟨rfl,BV.refl _⟩
 |l::ls,S,S',ls',h=>by
  have gen:(match Jw S ls with|some (S',ls')=>some (S',l::ls')|none=>none)=some (S',ls') ->
   (match Lv.Jw (S.fg R) (ls.map (AT.fg R)) with|some (S',ls')=>some (S',AT.fg R l::ls')|none=>none)=some (S'.fg R,ls'.map (AT.fg R))/\BV S S':=by
   intro h;split at h
   .rename_i S2 j c;cases h;obtain⟨a,e⟩:=mj c;rw[a];exact⟨rfl,e⟩
   .cases h
  cases l with
  |al r sub=>
   simp only[Jw]at h;simp only[AJ,AT.fg,Lv.Jw,Jm];split at h
   .rename_i x g;rw[g];split at h
    .rename_i S2 j c;cases h;obtain⟨a,e⟩:=mj c;rw[VS]at a;simp only[Ar,AT.fg,a,AJ,YL];exact⟨trivial,(BV.out _ _).trans e⟩
    .cases h
   .cases h
  |_=>exact gen h
theorem QT{ls:List AT}{S S':St}{ls':List AT}(h:LM S ls=some (S',ls')):Lv.LM (S.fg R) (ls.map (AT.fg R))=some (S'.fg R,ls'.map (AT.fg R))/\BV S S':=by
 grind[LM,Lv.LM,rT,mj]
theorem AUX{x:YO}{ls:List AT}{S S':St}{ls':List AT}(h:sG S x ls=some (S',ls')):Lv.sG (S.fg R) (x.er R) (ls.map (AT.fg R))=some (S'.fg R,ls'.map (AT.fg R))/\BV S S':=by
 cases x with
 |tmp s=>
  unfold sG at h;unfold Lv.sG;simp only[YO.er];dsimp only at h;split at h
  .rename_i a;rw[AX (show s∈(S.fg R).pin from mem_iff.1 a)];cases h;exact⟨rfl,BV.refl _⟩
  .rename_i a;rw[AU (show s∉(S.fg R).pin from NZ.1 a)];exact QT h
 |k y=>exact QT h|fn n=>exact QT h
theorem ko(x:U):Lv.Ro x.fg=Ro x:=by cases x<;>rfl
theorem AU8(x:U):Lv.ZV x.fg=ZV x:=by cases x<;>rfl
theorem AKN(rows:List (List T)):∀(c:List (Nat×Nat)) (i j:Nat),M3 rows (c++[(i,j)])=JA (M3 rows c) i j .top:=by
 intro c
 induction c generalizing rows with
 |nil=>intro i j;rfl
 |cons p c e=>intro i j;obtain⟨a,b⟩:=p;simp only[List.cons_append,M3];exact e _ i j
theorem AJO{S S':St}{r:CD}{i j:Nat}(h:S.pull r i j=some S'):(S.fg R).pull r i j=some (S'.fg R)/\BV S S':=by
 unfold St.pull at h;unfold Lv.St.pull;rw[Jm];split at h
 .rename_i c xs a;cases h;rw[a];simp only[Ar,AT.fg,U.fg,AD];refine⟨?_,(BV.Bi _ _ _).trans (BV.kill _ _)⟩;rw[<-Ko (RC r),Gk];rfl
 .rename_i c xs e a;cases h;rw[a];simp only[Ar,AT.fg,AD];refine⟨?_,(BV.Bi _ _ _).trans (BV.kill _ _)⟩;rw[<-Ko (RC r),Gk];simp only[AT.fg,AKN]
 .cases h
theorem ARz(r:CD):∀ls:List AT,Lv.onR r (ls.map (AT.fg R))=onR r ls| []=>rfl|l::ls=>by simp only[AJ,Lv.onR,onR,Kw,ZU,ARz r ls]
theorem Lo:∀{ls:List AT} {S S':St} {us:List U},Di S ls=some (S',us)->Lv.Di (S.fg R) (ls.map (AT.fg R))=some (S'.fg R,us.map U.fg)/\BV S S'
 | [],S,S',us,h=>by cases h;exact⟨rfl,BV.refl _⟩
 |l::ls,S,S',us,h=>by
  cases l with
  |t x=>
   simp only[Di]at h;simp only[AJ,AT.fg,Lv.Di,ko];split at h
   .cases h
   .rename_i y;rw[AU y];split at h
    .rename_i S2 E e;cases h;obtain⟨a,g⟩:=Lo e;rw[a];exact⟨rfl,g⟩
    .cases h
  |al r sub=>
   simp only[Di]at h;simp only[AJ,AT.fg,Lv.Di,Jm];split at h
   .rename_i x B;rw[B];split at h
    .rename_i S2 E e;cases h;obtain⟨a,g⟩:=Lo e;rw[VS]at a;simp only[Ar,AT.fg,a,AJ,YL];exact⟨trivial,(BV.out _ _).trans g⟩
    .cases h
   .cases h
  |vw s c xs=>
   cases s with
   |old k=>cases h
   |own r p=>
    cases p with
    |none=>
     simp only[Di]at h;simp only[AJ,AT.fg,Lv.Di,Jm];split at h
     .rename_i x B;rw[B];split at h
      .rename_i S2 E e;cases h;obtain⟨a,g⟩:=Lo e;rw[VS]at a;simp only[Ar,AT.fg,a,AJ,U.fg];exact⟨trivial,(BV.out _ _).trans g⟩
      .cases h
     .cases h
    |some q=>
     obtain⟨i,j⟩:=q;simp only[Di]at h;simp only[AJ,AT.fg,Lv.Di,ARz];split at h
     .cases h
     .rename_i y;rw[AU y];split at h
      .rename_i S1 G;obtain⟨H,I⟩:=AJO (R:=R) G;rw[H];split at h
       .rename_i S2 E e;cases h;obtain⟨a,g⟩:=Lo e;simp only[a,AJ,U.fg];exact⟨trivial,I.trans g⟩
       .cases h
      .cases h
  |_=>cases h
theorem AT6{S:St}{l:AT}{u:U}(h:S.HR l=some u):(S.fg R).HR (AT.fg R l)=some u.fg:=by
 cases l with
 |t x=>cases h;rfl
 |al r sub=>
  grind[St.HR,AT.fg,Lv.St.HR,Jm,YL]
 |vw s c xs=>cases h;rfl
 |ow x=>cases h;rfl
 |_=>cases h
theorem UG{S:St}:∀{ls:List AT} {us:List U},S.HN ls=some us->(S.fg R).HN (ls.map (AT.fg R))=some (us.map U.fg)
 | [],us,h=>by cases h;rfl
 |l::ls,us,h=>by
  simp only[St.HN]at h;split at h
  .rename_i x xs a c;cases h;simp only[AJ,Lv.St.HN,AT6 a,UG c]
  .cases h
theorem AM0{k:Nat}{l:AT}{u:U}(h:PY k l=some u):Lv.PY k (AT.fg R l)=some u.fg:=by
 cases l with
 |t x=>cases h;rfl
 |vw s c xs=>
  cases s with
  |own r p=>cases h
  |old e=>
   simp only[PY]at h;simp only[AT.fg,Lv.PY];split at h
   .rename_i a;cases h;rw[AX a];rfl
   .cases h
 |_=>cases h
theorem PZ{k:Nat}:∀{ls:List AT} {us:List U},Fl k ls=some us->Lv.Fl k (ls.map (AT.fg R))=some (us.map U.fg)
 | [],us,h=>by cases h;rfl
 |l::ls,us,h=>by
  simp only[Fl]at h;split at h
  .rename_i x xs a c;cases h;simp only[AJ,Lv.Fl,AM0 a,PZ c]
  .cases h
theorem N6:∀ls:List AT,Lv.DW (ls.map (AT.fg R))=DW ls
 | []=>rfl|l::ls=>by
  have a:=N6 ls;cases l with
  |vw s c xs=>cases s with|old k=>rfl|own r p=>simpa[AT.fg,Lv.DW,DW] using a
  |_=>simpa[AT.fg,Lv.DW,DW] using a
theorem ARd(k:Nat)(u:U):AT.fg R (EN k u)=Lv.EN k u.fg:=by cases u<;>rfl
theorem ARZ(u:U):AT.fg R (Jt u)=Lv.Jt u.fg:=by cases u<;>rfl
theorem qM(s:Src)(u:U):AT.fg R (Kq s u)=Lv.Kq s u.fg:=by cases u<;>rfl
theorem QA(k:Nat)(us:List U):(us.map (EN k)).map (AT.fg R)=(us.map U.fg).map (Lv.EN k):=by simp[Function.comp_def,ARd]
theorem Zf(us:List U):(us.map Jt).map (AT.fg R)=(us.map U.fg).map Lv.Jt:=by simp[Function.comp_def,ARZ]
theorem mM:∀ls:List AT,Lv.On (ls.map (AT.fg R))=On ls| []=>rfl|l::ls=>by simp only[AJ,Lv.On,On,Kw,mM ls]
theorem AKp(l:AT):Lv.RF (AT.fg R l)=RF l:=by
 cases l<;>try rfl
 .rename_i r sub;cases sub<;>rfl
 .rename_i s c xs;cases s with
  |own r p=>cases p<;>rfl
  |old k=>rfl
theorem AUa{S:St}{m:Bool}{l:Cap}{us:List U}(h:AWo S m l=some us):Lv.AJ3 (S.fg R) l.fg=some (match m with|false=>.v .one (us.map U.fg)|true=>.p (us.map U.fg)):=by
 cases m<;>cases l<;>simp only[AWo]at h
 .cases h;rfl
 .cases h;rfl
 .cases h
 .cases h
 .cases h
 .cases h
 .cases h;rfl
 .rename_i id off;simp only[Cap.fg,Lv.AJ3,Pz];split at h
  .rename_i ls a;rw[a];split at h
   .rename_i c;simp only[Ar,mM,c,if_true];have:=UG (R:=R) h;rw[CY]at this;rw[this];rfl
   .cases h
  .cases h
theorem yV{S:St}:∀{l:List (Bool×C)} {cs:List Cap} {y:re l},AGi S l cs=some y->Lv.dR (S.fg R) (cs.map Cap.fg)=some (SC l y)
 | [],[],y,h=>by cases h;rfl
 |(m,c)::l,[],y,h=>by cases h
 | [],a::cs,y,h=>by cases h
 |(m,c)::l,a::cs,y,h=>by
  simp only[AGi]at h;split at h
  .rename_i us e;split at h
   .rename_i x q g j;cases h;simp only[AJ,Lv.dR,AUa e,yV j];cases m<;>simp only[SC,Ik g]
   .cases h
  .cases h
theorem YB{a b:Sh}(h:AMJ a b=true):a=b:=by cases a<;>cases b<;>simp[AMJ]at h<;>rfl
end
end Y
end Lv
namespace Lv
open Go (IntKind BinOp UnOp)
namespace Y
section
variable{R:List GF}
def Al(R:List GF)(fs:List Nat)(xs:List CI):Prop:=∀(i:Nat) (x:CI) (n:Nat),xs[i]?=some x->fs[i]?=some n->xr R n=x
theorem Al.of{fs:List Nat}{xs:List CI}(h:fs.map (fun n=>(R[n]?).map GF.x)=xs.map some):Al R fs xs:=by
 intro i x n a c;have e:=congrArg (fun l=>l[i]?) h;simp only[List.getElem?_map,a,c,Ar]at e;unfold xr
 grind
theorem Al.nil(xs:List CI):Al R [] xs:=by intro i x n _ h;simp at h
theorem Al.tail{fs:List Nat}{x:CI}{xs:List CI}(h:Al R fs (x::xs)):Al R fs.tail xs:=by
 intro i y n e c;cases fs with
 |nil=>simp at c|cons a fs=>exact h (i+1) y n (by simpa using e) (by simpa using c)
theorem ATp(k:PK):k.md.E2=PK.E2 k:=by cases k<;>rfl
theorem rb(k:PK):k.md.writes=PK.writes k:=by cases k<;>rfl
theorem AC8:∀(ks:List PK) (es:List En),Lv.HQ (ks.map PK.md) (es.map (En.fg R))=(HQ ks es).map (AT.fg R)
 | [],es=>by cases es<;>rfl
 |k::ks,[]=>rfl|k::ks,e::es=>by
  simp only[AJ,Lv.HQ,HQ,ATp,List.map_append,AC8 ks es];congr 1;split<;>simp[En.fg]
def bp0:En->Option Nat|⟨.one,[.bp id 0]⟩=>some id|_=>none
def AW8:Lv.Ent->Option Nat|⟨.one,[.bp id 0]⟩=>some id|_=>none
theorem AM4(e:En):AW8 (e.fg R)=bp0 e:=by
 obtain⟨sh,cs⟩:=e;cases sh<;>try rfl
 rcases cs with _|⟨l,_|⟨a,ls⟩⟩
 .rfl
 .cases l<;>try rfl
  rename_i id off;cases off<;>rfl
 .cases l<;>try rfl
  rename_i id off;cases off<;>rfl
theorem AUV(S:St)(c:C)(ks:List PK)(e:En)(es:List En):Ej S (.b c::ks) (e::es)=match bp0 e with
 |some id=>(match get S.bx id with|some ls=>Ej (S.ON id (ls.cs.map fun _=>.t .top)) ks es|none=>Ej S ks es)
 |none=>Ej S ks es:=by
 obtain⟨sh,cs⟩:=e;cases sh<;>try rfl
 rcases cs with _|⟨l,_|⟨a,ls⟩⟩
 .rfl
 .cases l<;>try rfl
  rename_i id off;cases off<;>rfl
 .cases l<;>try rfl
  rename_i id off;cases off<;>rfl
theorem ARX(S:Lv.St)(ms:List Md)(e:Lv.Ent)(es:List Lv.Ent):Lv.Ej S (.b::ms) (e::es)=match AW8 e with
 |some id=>(match Lv.get S.bx id with|some ls=>Lv.Ej { S with bx:=Lv.put S.bx id (ls.map fun _=>.t .top)} ms es|none=>Lv.Ej S ms es)
 |none=>Lv.Ej S ms es:=by
 obtain⟨sh,cs⟩:=e;cases sh<;>try rfl
 rcases cs with _|⟨l,_|⟨a,ls⟩⟩
 .rfl
 .cases l<;>try rfl
  rename_i id off;cases off<;>rfl
 .cases l<;>try rfl
  rename_i id off;cases off<;>rfl
theorem Pc:∀(ks:List PK) (S:St) (es:List En),(Ej S ks es).fg R=Lv.Ej (S.fg R) (ks.map PK.md) (es.map (En.fg R))/\BV S (Ej S ks es)
 | [],S,es=>by cases es<;>exact⟨rfl,BV.refl _⟩
 |k::ks,S,[]=>by exact⟨rfl,BV.refl _⟩|k::ks,S,e::es=>by
  cases k with
  |b c=>
   rw[AUV];simp only[AJ,PK.md];rw[ARX,AM4];cases bp0 e with
   |none=>dsimp only;exact Pc ks S es|some id=>
    simp only[Pz];cases get S.bx id with
    |none=>exact Pc ks S es|some ls=>
     obtain⟨a,g⟩:=Pc ks (S.ON id (ls.cs.map fun _=>.t .top)) es;refine⟨?_,(BV.ON _ _ _).trans g⟩;simp only[Ar];rw[a,T9];simp[Function.comp_def,AT.fg,U.fg]
  |_=>
   have h:=Pc ks S es;simpa only[Ej,Lv.Ej,AJ,PK.md] using h
theorem AUM{S:St}{c:C}{e:En}{x:c.D}(h:AWe S c e=some x):Lv.SB (S.fg R) .p (e.fg R)=some (.p (enc c x)):=by
 simp only[AWe]at h;split at h
 .rename_i id off;simp only[En.fg,AJ,BY,AT.fg,Lv.SB,Pz];split at h
  .rename_i ls a;rw[a];split at h
   .rename_i g;simp only[Ar,mM,g,if_true];split at h
    .rename_i us j;have:=UG (R:=R) j;rw[CY]at this;rw[this,Ik h]
    .cases h
   .cases h
  .cases h
 .simp only[En.fg,AJ,BY,AT.fg,Lv.SB,Ik h]
 .cases h
theorem AUK{S:St}{c:C}{e:En}{x:c.D}(h:AWc S c e=some x):Lv.SB (S.fg R) .b (e.fg R)=some (.b (enc c x)):=by
 simp only[AWc]at h;split at h
 .rename_i id;simp only[En.fg,AJ,BY,AT.fg,Lv.SB,Pz];split at h
  .rename_i ls a;rw[a];split at h
   .rename_i us g;simp only[Ar,N6,PZ g,Ik h]
   .cases h
  .cases h
 .cases h
theorem AUL{S:St}{fs:List Nat}{x:CI}{xs:List CI}{l:List (Bool×C)}{e:En}{y:re l}(hA:Al R fs (x::xs))(h:AWd S fs l e=some y):Lv.SB (S.fg R) .v (e.fg R)=some (.f x (SC l y)):=by
 simp only[AWd]at h;split at h
 .rename_i n caps;split at h
  .rename_i g a;split at h
   .rename_i c;subst c;have:=hA 0 x g rfl rfl;simp only[En.fg,AJ,BY,AT.fg,Lv.SB,yV h,this]
   .cases h
  .cases h
 .cases h
theorem AXP{S:Lv.St}{e:Lv.Ent}{cs:List T}(h:S.HN e.cs=some cs):Lv.SB S .v e=some (.v e.sh cs):=by
 obtain⟨sh,ls⟩:=e;have gen:(match S.HN ls with|some cs=>some (V.v sh cs)|none=>none)=some (.v sh cs):=by dsimp only at h;rw[h]
 cases sh<;>try exact gen
 rcases ls with _|⟨l,_|⟨a,ls⟩⟩
 .exact gen
 .cases l<;>try exact gen
  simp[Lv.St.HN,Lv.St.HR]at h
 .cases l<;>exact gen
theorem AUN{S:St}{c:C}{e:En}{x:c.D}(h:AWf S c e=some x)(a:e.sh=shC c):Lv.SB (S.fg R) .v (e.fg R)=some (.v (shC c) (enc c x)):=by
 simp only[AWf]at h;split at h
 .rename_i us g;have:=AXP (e:=e.fg R) (UG (R:=R) g);rw[this];simp only[En.fg,a,Ik h]
 .cases h
theorem Q8{S:St}:∀{ks:List PK} {fs:List Nat} {es:List En} {us:List U} {a:A ks},Al R fs (fX ks)->I8 S fs ks es us=some a->Lv.I8 (S.fg R) (ks.map PK.md) (es.map (En.fg R)) (us.map U.fg)=some (aVs ks a)
 | [],fs,[],us,a,_,h=>by simp[Lv.I8,aVs]| [],fs,e::es,us,a,_,h=>by simp[I8]at h|k::ks,fs,[],us,a,_,h=>by simp[I8]at h|k::ks,fs,e::es,us,a,hA,h=>by
  cases k with
  |o c=>
   simp only[I8]at h;split at h
   .rename_i q;split at h
    .rename_i x y g j;cases h;have B:=Q8 (show Al R fs (fX ks) from hA) j;rw[CY]at B;simp only[AJ,PK.md,Lv.I8,En.fg,An,B,aVs,PK.V,Ik g,Co,YB q]
    .cases h
   .cases h
  |m c=>
   simp only[I8]at h;split at h
   .rename_i q;split at h
    .rename_i x y g j;cases h;have B:=Q8 (show Al R fs (fX ks) from hA) j;rw[CY]at B;have E:(e.cs.map (AT.fg R)).all Lv.RF=true:=by rw[Mo];simpa[Function.comp_def,AKp] using q.2.1
     simp only[AJ,PK.md,Lv.I8,En.fg,An,B,aVs,PK.V,Ik g,Co,YB q.1,E];rw[AX ⟨trivial,by rw[<-YB q.1];exact q.2.2⟩]
    .cases h
   .cases h
  |f x l=>
   simp only[I8]at h;split at h
   .rename_i y z g j;cases h;simp only[AJ,PK.md,Lv.I8,AUL hA g,Q8 hA.tail j,aVs,PK.V]
   .cases h
  |v c=>
   simp only[I8]at h;split at h
   .rename_i q;split at h
    .rename_i y z g j;cases h;simp only[AJ,PK.md,Lv.I8,AUN g (YB q),Q8 (show Al R fs (fX ks) from hA) j,aVs,PK.V]
    .cases h
   .cases h
  |p c=>
   simp only[I8]at h;split at h
   .rename_i y z g j;cases h;simp only[AJ,PK.md,Lv.I8,AUM g,Q8 (show Al R fs (fX ks) from hA) j,aVs,PK.V]
   .cases h
  |b c=>
   simp only[I8]at h;split at h
   .rename_i y z g j;cases h;simp only[AJ,PK.md,Lv.I8,AUK g,Q8 (show Al R fs (fX ks) from hA) j,aVs,PK.V]
   .cases h
theorem AMy{S S':St}{ks:List PK}{fs:List Nat}{es:List En}{a:A ks}(hA:Al R fs (fX ks))(h:Vn S fs ks es=some (S',a)) :
 Lv.Vn (S.fg R) (ks.map PK.md) (es.map (En.fg R))=some (S'.fg R,aVs ks a)/\BV S S':=by
 unfold Vn at h;unfold Lv.Vn;split at h
 .rename_i S1 us c;obtain⟨e,g⟩:=Lo (R:=R) c;rw[AC8,e];split at h
  .rename_i B j;cases h;obtain⟨q,y⟩:=Pc (R:=R) ks S1 es;simp only[Q8 hA j,q];exact⟨trivial,g.trans y⟩
  .cases h
 .cases h
theorem lI(l:AT):Lv.names (AT.fg R l)=names l:=by
 cases l<;>try rfl
 rename_i n caps;simp only[AT.fg,Lv.names,names,List.filterMap_map];congr 1;funext c;cases c<;>rfl
theorem AMK(l l':AT):Lv.TR (AT.fg R l) (AT.fg R l')=TR l l':=by
 grind[Lv.TR,TR,Kw,lI,Xg,ZU]
theorem AML(l l':AT):Lv.RN (AT.fg R l) (AT.fg R l')=RN l l':=by
 grind[Lv.RN,RN,Kw,lI,Xg,ZU]
theorem AMM(e a:En):Lv.shares (e.fg R) (a.fg R)=shares e a:=by
 simp only[Lv.shares,shares,En.fg,HX,Function.comp_def,AMK]
theorem yW:∀(ks:List PK) (prev es:List En),Lv.Pd (prev.map (En.fg R)) (ks.map PK.md) (es.map (En.fg R))=Pd prev ks es
 | [],prev,es=>by cases es<;>rfl
 |k::ks,prev,[]=>rfl|k::ks,prev,e::es=>by
  have a:=yW ks (e::prev) es;simp only[AJ]at a ⊢;simp only[Lv.Pd,Pd,rb,HX,Function.comp_def,AMM,a]
end
end Y
end Lv
