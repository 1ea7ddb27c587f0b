/- The typed machine is right about the light one. -/
import Derived.Test.YtnjoipcemhflkaaGreatLvE
noncomputable section
set_option linter.unusedVariables false
set_option linter.unusedSimpArgs false
set_option linter.unusedSectionVars false
open List renaming all_map->Mq,any_map->Hb,length_map->Af,map_cons->AJ,map_drop->CV,map_nil->BX,map_take->Cn
open Nat renaming eq_of_beq_eq_true->IM,lt_of_lt_of_le->BR,ne_of_beq_eq_false->Hy
open Option renaming map_some->An
open Option.some renaming injEq->AD
namespace Lv
open Go (IntKind BinOp UnOp)
structure B3 where
 mk ::
 Kind:Int
 Id:Int
 Ab:Int
 Bu:Int
 BE:Int
 DJ:Int
abbrev ALm(x:B3):List T:=[.int .i64 x.Kind,.int .i64 x.Id,.int .i64 x.Ab,.int .i64 x.Bu,.int .i64 x.BE,.int .i64 x.DJ]
structure Aa where
 mk ::
 AY:List Int
 CS:Int
 Room:Int
 BE:Int
 CE:Int
 Bz:Int
 Rest:Int
 CY:Int
 Cu:Int
abbrev AWM(x:Aa):List T:=[.sl 1 (x.AY.map eN),.int .i64 x.CS,.int .i64 x.Room,.int .i64 x.BE,.int .i64 x.CE,.int .i64 x.Bz,.int .i64 x.Rest,.int .i64 x.CY,.int .i64 x.Cu]
structure AU where
 mk ::
 Id:Int
 Ab:Int
 Bu:Int
 BE:Int
 DJ:Int
 Since:Int
 A0:Int
 State:Int
 C7:Int
 Dh:Int
abbrev dS(x:AU):List T:=[.int .i64 x.Id,.int .i64 x.Ab,.int .i64 x.Bu,.int .i64 x.BE,.int .i64 x.DJ,.int .i64 x.Since,.int .i64 x.A0,.int .i64 x.State,.int .i64 x.C7,.int .i64 x.Dh]
structure BI where
 mk ::
 Total:Int
 Dv:Int
 FA:Int
 Fm:Int
 F8:Int
abbrev AQ4(x:BI):List T:=[.int .i64 x.Total,.int .i64 x.Dv,.int .i64 x.FA,.int .i64 x.Fm,.int .i64 x.F8]
structure Au where
 mk ::
 Level:Int
 A0:Int
 Id:Int
 BE:Int
abbrev ALk(x:Au):List T:=[.int .i64 x.Level,.int .i64 x.A0,.int .i64 x.Id,.int .i64 x.BE]
structure BY where
 mk ::
 At:Int
 Id:Int
abbrev AQ5(x:BY):List T:=[.int .i64 x.At,.int .i64 x.Id]
structure Aw where
 mk ::
 Ar:List (List BY)
abbrev AWO(x:Aw):List T:=[.sl 1 (x.Ar.map (fun l=>[T.sl 2 (l.map AQ5)]))]
structure Ae where
 mk ::
 AY:BI
 Row:List Au
 By:Aw
abbrev dR(x:Ae):List T:=[.int .i64 x.AY.Total,.int .i64 x.AY.Dv,.int .i64 x.AY.FA,.int .i64 x.AY.Fm,.int .i64 x.AY.F8,.sl 4 (x.Row.map ALk),.sl 1 (x.By.Ar.map (fun l=>[T.sl 2 (l.map AQ5)]))]
structure AE where
 mk ::
 AQ:Aa
 Now:Int
 A0:Int
 AG:List AU
 AH:List Ae
 BB:List Int
 A9:List Int
abbrev AWL(x:AE):List T:=[.sl 1 (x.AQ.AY.map eN),.int .i64 x.AQ.CS,.int .i64 x.AQ.Room,.int .i64 x.AQ.BE,.int .i64 x.AQ.CE,.int .i64 x.AQ.Bz,.int .i64 x.AQ.Rest,.int .i64 x.AQ.CY,.int .i64 x.AQ.Cu,.int .i64 x.Now,.int .i64 x.A0,.sl 10 (x.AG.map dS),.sl 7 (x.AH.map dR),.sl 1 (x.BB.map eN),.sl 1 (x.A9.map eN)]
structure Bp where
 mk ::
 Data:List UInt8
 Safe:Int
abbrev AYI(x:Bp):List T:=[.str x.Data,.int .i64 x.Safe]
structure BZ where
 mk ::
 Log:Bp
 DW:Bp
 Odd:Bp
abbrev AWN(x:BZ):List T:=[.str x.Log.Data,.int .i64 x.Log.Safe,.str x.DW.Data,.int .i64 x.DW.Safe,.str x.Odd.Data,.int .i64 x.Odd.Safe]
structure Ap where
 mk ::
 BO:AE
 BH:BZ
 Seq:Int
 Laid:List B3
abbrev AQ3(x:Ap):List T:=[.sl 1 (x.BO.AQ.AY.map eN),.int .i64 x.BO.AQ.CS,.int .i64 x.BO.AQ.Room,.int .i64 x.BO.AQ.BE,.int .i64 x.BO.AQ.CE,.int .i64 x.BO.AQ.Bz,.int .i64 x.BO.AQ.Rest,.int .i64 x.BO.AQ.CY,.int .i64 x.BO.AQ.Cu,.int .i64 x.BO.Now,.int .i64 x.BO.A0,.sl 10 (x.BO.AG.map dS),.sl 7 (x.BO.AH.map dR),.sl 1 (x.BO.BB.map eN),.sl 1 (x.BO.A9.map eN),.str x.BH.Log.Data,.int .i64 x.BH.Log.Safe,.str x.BH.DW.Data,.int .i64 x.BH.DW.Safe,.str x.BH.Odd.Data,.int .i64 x.BH.Odd.Safe,.int .i64 x.Seq,.sl 6 (x.Laid.map ALm)]
structure B6 where
 mk ::
 Code:Int
 Ids:List Int
abbrev ALl(x:B6):List T:=[.int .i64 x.Code,.sl 1 (x.Ids.map eN)]
structure Cf where
 mk ::
 Ao:Ap
 GS:List B3
 Dn:List B6
 Iv:Int
abbrev AWP(x:Cf):List T:=[.sl 1 (x.Ao.BO.AQ.AY.map eN),.int .i64 x.Ao.BO.AQ.CS,.int .i64 x.Ao.BO.AQ.Room,.int .i64 x.Ao.BO.AQ.BE,.int .i64 x.Ao.BO.AQ.CE,.int .i64 x.Ao.BO.AQ.Bz,.int .i64 x.Ao.BO.AQ.Rest,.int .i64 x.Ao.BO.AQ.CY,.int .i64 x.Ao.BO.AQ.Cu,.int .i64 x.Ao.BO.Now,.int .i64 x.Ao.BO.A0,.sl 10 (x.Ao.BO.AG.map dS),.sl 7 (x.Ao.BO.AH.map dR),.sl 1 (x.Ao.BO.BB.map eN),.sl 1 (x.Ao.BO.A9.map eN),.str x.Ao.BH.Log.Data,.int .i64 x.Ao.BH.Log.Safe,.str x.Ao.BH.DW.Data,.int .i64 x.Ao.BH.DW.Safe,.str x.Ao.BH.Odd.Data,.int .i64 x.Ao.BH.Odd.Safe,.int .i64 x.Ao.Seq,.sl 6 (x.Ao.Laid.map ALm),.sl 6 (x.GS.map ALm),.sl 2 (x.Dn.map ALl),.int .i64 x.Iv]
structure UQ where
 mk ::
 Kind:Int
 Req:B3
 N_:Int
 R4:List Int
abbrev AZc(x:UQ):List T:=[.int .i64 x.Kind,.int .i64 x.Req.Kind,.int .i64 x.Req.Id,.int .i64 x.Req.Ab,.int .i64 x.Req.Bu,.int .i64 x.Req.BE,.int .i64 x.Req.DJ,.int .i64 x.N_,.sl 1 (x.R4.map eN)]
structure Br where
 mk ::
 Seq:Int
 Body:List UInt8
 Next:Int
abbrev AWK(x:Br):List T:=[.int .i64 x.Seq,.str x.Body,.int .i64 x.Next]
structure Db where
 mk ::
 TF:List Int
 at_:Int
 AAD:Bool
abbrev AWQ(x:Db):List T:=[.sl 1 (x.TF.map eN),.int .i64 x.at_,.bool x.AAD]
structure Ax where
 mk ::
 b_:List UInt8
 i_:Int
 h_:Int
abbrev AWR(x:Ax):List T:=[.sl 1 (x.b_.map eBr),.int .i64 x.i_,.int .i64 x.h_]
inductive C where
 |i|u|b|s|m|z|ki(k:IntKind)|l(c:C)|st(n:Nat)|un(n:Nat)
 deriving DecidableEq
def tD:Nat->Type|0=>B3|1=>Aa|2=>AU|3=>BI|4=>Au|5=>BY|6=>Aw|7=>Ae|8=>AE|9=>Bp|10=>BZ|11=>Ap|12=>B6|13=>Cf|14=>UQ|15=>Br|16=>Db|17=>Ax|_=>Unit
def C.D:C->Type|.i=>Int|.u=>UInt8|.b=>Bool|.s=>List UInt8|.m=>List (Int×Int)|.ki _=>Int|.z=>Unit|.l c=>List c.D|.st n=>tD n|.un _=>Unit
def AXo:Nat->Nat|0=>6|1=>9|2=>10|3=>5|4=>4|5=>2|6=>1|7=>7|8=>15|9=>2|10=>6|11=>23|12=>2|13=>26|14=>9|15=>3|16=>3|17=>3|_=>0
def C.size:C->Nat|.st n=>AXo n|.un n=>n|_=>1
inductive U where
 |top|un|int(k:IntKind)(n:Int)|u8(x:UInt8)|bool(b:Bool)|str(s:List UInt8)|nil|np|sl(c:C)(xs:List c.D)|mp(ks:List (Int×Int))
def AZd:(n:Nat)->tD n->List T|0,x=>ALm x|1,x=>AWM x|2,x=>dS x|3,x=>AQ4 x|4,x=>ALk x|5,x=>AQ5 x|6,x=>AWO x|7,x=>dR x|8,x=>AWL x|9,x=>AYI x|10,x=>AWN x|11,x=>AQ3 x|12,x=>ALl x|13,x=>AWP x|14,x=>AZc x|15,x=>AWK x|16,x=>AWQ x|17,x=>AWR x|_+18,_=>[]
def enc:(c:C)->c.D->List T|.i,x=>[.int .i64 x]|.u,x=>[.int .u8 x.toNat]|.b,x=>[.bool x]|.s,x=>[.str x]|.m,x=>[.mp x]|.ki k,x=>[.int k x]|.z,_=>[.nil]|.l c,xs=>[.sl c.size (xs.map (enc c))]|.st n,x=>AZd n x|.un n,_=>List.replicate n .un
abbrev AXa(x:B3):List U:=[.int .i64 x.Kind,.int .i64 x.Id,.int .i64 x.Ab,.int .i64 x.Bu,.int .i64 x.BE,.int .i64 x.DJ]
abbrev AJM(x:Aa):List U:=[.sl .i x.AY,.int .i64 x.CS,.int .i64 x.Room,.int .i64 x.BE,.int .i64 x.CE,.int .i64 x.Bz,.int .i64 x.Rest,.int .i64 x.CY,.int .i64 x.Cu]
abbrev AJK(x:AU):List U:=[.int .i64 x.Id,.int .i64 x.Ab,.int .i64 x.Bu,.int .i64 x.BE,.int .i64 x.DJ,.int .i64 x.Since,.int .i64 x.A0,.int .i64 x.State,.int .i64 x.C7,.int .i64 x.Dh]
abbrev AAJ(x:BI):List U:=[.int .i64 x.Total,.int .i64 x.Dv,.int .i64 x.FA,.int .i64 x.Fm,.int .i64 x.F8]
abbrev AJH(x:Au):List U:=[.int .i64 x.Level,.int .i64 x.A0,.int .i64 x.Id,.int .i64 x.BE]
abbrev AXZ(x:BY):List U:=[.int .i64 x.At,.int .i64 x.Id]
abbrev AJO(x:Aw):List U:=[.sl (.l (.st 5)) x.Ar]
abbrev AJG(x:Ae):List U:=[.int .i64 x.AY.Total,.int .i64 x.AY.Dv,.int .i64 x.AY.FA,.int .i64 x.AY.Fm,.int .i64 x.AY.F8,.sl (.st 4) x.Row,.sl (.l (.st 5)) x.By.Ar]
abbrev AJJ(x:AE):List U:=[.sl .i x.AQ.AY,.int .i64 x.AQ.CS,.int .i64 x.AQ.Room,.int .i64 x.AQ.BE,.int .i64 x.AQ.CE,.int .i64 x.AQ.Bz,.int .i64 x.AQ.Rest,.int .i64 x.AQ.CY,.int .i64 x.AQ.Cu,.int .i64 x.Now,.int .i64 x.A0,.sl (.st 2) x.AG,.sl (.st 7) x.AH,.sl .i x.BB,.sl .i x.A9]
abbrev AQE(x:Bp):List U:=[.str x.Data,.int .i64 x.Safe]
abbrev AJN(x:BZ):List U:=[.str x.Log.Data,.int .i64 x.Log.Safe,.str x.DW.Data,.int .i64 x.DW.Safe,.str x.Odd.Data,.int .i64 x.Odd.Safe]
abbrev AAI(x:Ap):List U:=[.sl .i x.BO.AQ.AY,.int .i64 x.BO.AQ.CS,.int .i64 x.BO.AQ.Room,.int .i64 x.BO.AQ.BE,.int .i64 x.BO.AQ.CE,.int .i64 x.BO.AQ.Bz,.int .i64 x.BO.AQ.Rest,.int .i64 x.BO.AQ.CY,.int .i64 x.BO.AQ.Cu,.int .i64 x.BO.Now,.int .i64 x.BO.A0,.sl (.st 2) x.BO.AG,.sl (.st 7) x.BO.AH,.sl .i x.BO.BB,.sl .i x.BO.A9,.str x.BH.Log.Data,.int .i64 x.BH.Log.Safe,.str x.BH.DW.Data,.int .i64 x.BH.DW.Safe,.str x.BH.Odd.Data,.int .i64 x.BH.Odd.Safe,.int .i64 x.Seq,.sl (.st 0) x.Laid]
abbrev AJL(x:B6):List U:=[.int .i64 x.Code,.sl .i x.Ids]
abbrev AJP(x:Cf):List U:=[.sl .i x.Ao.BO.AQ.AY,.int .i64 x.Ao.BO.AQ.CS,.int .i64 x.Ao.BO.AQ.Room,.int .i64 x.Ao.BO.AQ.BE,.int .i64 x.Ao.BO.AQ.CE,.int .i64 x.Ao.BO.AQ.Bz,.int .i64 x.Ao.BO.AQ.Rest,.int .i64 x.Ao.BO.AQ.CY,.int .i64 x.Ao.BO.AQ.Cu,.int .i64 x.Ao.BO.Now,.int .i64 x.Ao.BO.A0,.sl (.st 2) x.Ao.BO.AG,.sl (.st 7) x.Ao.BO.AH,.sl .i x.Ao.BO.BB,.sl .i x.Ao.BO.A9,.str x.Ao.BH.Log.Data,.int .i64 x.Ao.BH.Log.Safe,.str x.Ao.BH.DW.Data,.int .i64 x.Ao.BH.DW.Safe,.str x.Ao.BH.Odd.Data,.int .i64 x.Ao.BH.Odd.Safe,.int .i64 x.Ao.Seq,.sl (.st 0) x.Ao.Laid,.sl (.st 0) x.GS,.sl (.st 12) x.Dn,.int .i64 x.Iv]
abbrev AXY(x:UQ):List U:=[.int .i64 x.Kind,.int .i64 x.Req.Kind,.int .i64 x.Req.Id,.int .i64 x.Req.Ab,.int .i64 x.Req.Bu,.int .i64 x.Req.BE,.int .i64 x.Req.DJ,.int .i64 x.N_,.sl .i x.R4]
abbrev AJI(x:Br):List U:=[.int .i64 x.Seq,.str x.Body,.int .i64 x.Next]
abbrev AJQ(x:Db):List U:=[.sl .i x.TF,.int .i64 x.at_,.bool x.AAD]
abbrev AJR(x:Ax):List U:=[.sl .u x.b_,.int .i64 x.i_,.int .i64 x.h_]
def AFN:(n:Nat)->tD n->List U|0,x=>AXa x|1,x=>AJM x|2,x=>AJK x|3,x=>AAJ x|4,x=>AJH x|5,x=>AXZ x|6,x=>AJO x|7,x=>AJG x|8,x=>AJJ x|9,x=>AQE x|10,x=>AJN x|11,x=>AAI x|12,x=>AJL x|13,x=>AJP x|14,x=>AXY x|15,x=>AJI x|16,x=>AJQ x|17,x=>AJR x|_+18,_=>[]
def cells:(c:C)->c.D->List U|.i,x=>[.int .i64 x]|.u,x=>[.u8 x]|.b,x=>[.bool x]|.s,x=>[.str x]|.m,x=>[.mp x]|.ki k,x=>[.int k x]|.z,_=>[.nil]|.l c,xs=>[.sl c xs]|.st n,x=>AFN n x|.un n,_=>List.replicate n .un
def toI:U->Option Int|.int .i64 n=>some n|_=>none
def toU:U->Option UInt8|.u8 x=>some x|_=>none
def AXO:U->Option Bool|.bool x=>some x|_=>none
def toN(k:IntKind):U->Option Int|.int k' x=>if k'=k then some x else none|_=>none
def toZ:U->Option Unit|.nil=>some ()|_=>none
def toM:U->Option (List (Int×Int))|.mp x=>some x|_=>none
def toS:U->Option (List UInt8)|.str x=>some x|_=>none
def toL(c:C):U->Option (List c.D)|.sl c' xs=>if h:c'=c then some (h▸xs) else none|_=>none
def gI{α:Type}(us:List U)(K:Int->List U->Option α):Option α:=match us with|u::us=>(toI u).bind fun a=>K a us | []=>none
def gS{α:Type}(us:List U)(K:List UInt8->List U->Option α):Option α:=match us with|u::us=>(toS u).bind fun a=>K a us | []=>none
def gBo{α:Type}(us:List U)(K:Bool->List U->Option α):Option α:=match us with|u::us=>(AXO u).bind fun a=>K a us | []=>none
def gL{α:Type}(c:C)(us:List U)(K:List c.D->List U->Option α):Option α:=match us with|u::us=>(toL c u).bind fun a=>K a us | []=>none
def gE{α:Type}(us:List U)(a:α):Option α:=match us with | []=>some a|_::_=>none
def ATM(us:List U):Option B3:=gI us fun a0 us=>gI us fun a1 us=>gI us fun a2 us=>gI us fun a3 us=>gI us fun a4 us=>gI us fun a5 us=>gE us (⟨a0,a1,a2,a3,a4,a5⟩:B3)
def yP(us:List U):Option Aa:=gL .i us fun a0 us=>gI us fun a1 us=>gI us fun a2 us=>gI us fun a3 us=>gI us fun a4 us=>gI us fun a5 us=>gI us fun a6 us=>gI us fun a7 us=>gI us fun a8 us=>gE us (⟨a0,a1,a2,a3,a4,a5,a6,a7,a8⟩:Aa)
def yN(us:List U):Option AU:=gI us fun a0 us=>gI us fun a1 us=>gI us fun a2 us=>gI us fun a3 us=>gI us fun a4 us=>gI us fun a5 us=>gI us fun a6 us=>gI us fun a7 us=>gI us fun a8 us=>gI us fun a9 us=>gE us (⟨a0,a1,a2,a3,a4,a5,a6,a7,a8,a9⟩:AU)
def nC(us:List U):Option BI:=gI us fun a0 us=>gI us fun a1 us=>gI us fun a2 us=>gI us fun a3 us=>gI us fun a4 us=>gE us (⟨a0,a1,a2,a3,a4⟩:BI)
def yK(us:List U):Option Au:=gI us fun a0 us=>gI us fun a1 us=>gI us fun a2 us=>gI us fun a3 us=>gE us (⟨a0,a1,a2,a3⟩:Au)
def ATK(us:List U):Option BY:=gI us fun a0 us=>gI us fun a1 us=>gE us (⟨a0,a1⟩:BY)
def yR(us:List U):Option Aw:=gL (.l (.st 5)) us fun a0 us=>gE us (⟨a0⟩:Aw)
def yJ(us:List U):Option Ae:=gI us fun a0 us=>gI us fun a1 us=>gI us fun a2 us=>gI us fun a3 us=>gI us fun a4 us=>gL (.st 4) us fun a5 us=>gL (.l (.st 5)) us fun a6 us=>gE us (⟨⟨a0,a1,a2,a3,a4⟩,a5,⟨a6⟩⟩:Ae)
def yM(us:List U):Option AE:=gL .i us fun a0 us=>gI us fun a1 us=>gI us fun a2 us=>gI us fun a3 us=>gI us fun a4 us=>gI us fun a5 us=>gI us fun a6 us=>gI us fun a7 us=>gI us fun a8 us=>gI us fun a9 us=>gI us fun a10 us=>gL (.st 2) us fun a11 us=>gL (.st 7) us fun a12 us=>gL .i us fun a13 us=>gL .i us fun a14 us=>gE us (⟨⟨a0,a1,a2,a3,a4,a5,a6,a7,a8⟩,a9,a10,a11,a12,a13,a14⟩:AE)
def AH5(us:List U):Option Bp:=gS us fun a0 us=>gI us fun a1 us=>gE us (⟨a0,a1⟩:Bp)
def yQ(us:List U):Option BZ:=gS us fun a0 us=>gI us fun a1 us=>gS us fun a2 us=>gI us fun a3 us=>gS us fun a4 us=>gI us fun a5 us=>gE us (⟨⟨a0,a1⟩,⟨a2,a3⟩,⟨a4,a5⟩⟩:BZ)
def nB(us:List U):Option Ap:=gL .i us fun a0 us=>gI us fun a1 us=>gI us fun a2 us=>gI us fun a3 us=>gI us fun a4 us=>gI us fun a5 us=>gI us fun a6 us=>gI us fun a7 us=>gI us fun a8 us=>gI us fun a9 us=>gI us fun a10 us=>gL (.st 2) us fun a11 us=>gL (.st 7) us fun a12 us=>gL .i us fun a13 us=>gL .i us fun a14 us=>gS us fun a15 us=>gI us fun a16 us=>gS us fun a17 us=>gI us fun a18 us=>gS us fun a19 us=>gI us fun a20 us=>gI us fun a21 us=>gL (.st 0) us fun a22 us=>gE us (⟨⟨⟨a0,a1,a2,a3,a4,a5,a6,a7,a8⟩,a9,a10,a11,a12,a13,a14⟩,⟨⟨a15,a16⟩,⟨a17,a18⟩,⟨a19,a20⟩⟩,a21,a22⟩:Ap)
def yO(us:List U):Option B6:=gI us fun a0 us=>gL .i us fun a1 us=>gE us (⟨a0,a1⟩:B6)
def yS(us:List U):Option Cf:=gL .i us fun a0 us=>gI us fun a1 us=>gI us fun a2 us=>gI us fun a3 us=>gI us fun a4 us=>gI us fun a5 us=>gI us fun a6 us=>gI us fun a7 us=>gI us fun a8 us=>gI us fun a9 us=>gI us fun a10 us=>gL (.st 2) us fun a11 us=>gL (.st 7) us fun a12 us=>gL .i us fun a13 us=>gL .i us fun a14 us=>gS us fun a15 us=>gI us fun a16 us=>gS us fun a17 us=>gI us fun a18 us=>gS us fun a19 us=>gI us fun a20 us=>gI us fun a21 us=>gL (.st 0) us fun a22 us=>gL (.st 0) us fun a23 us=>gL (.st 12) us fun a24 us=>gI us fun a25 us=>gE us (⟨⟨⟨⟨a0,a1,a2,a3,a4,a5,a6,a7,a8⟩,a9,a10,a11,a12,a13,a14⟩,⟨⟨a15,a16⟩,⟨a17,a18⟩,⟨a19,a20⟩⟩,a21,a22⟩,a23,a24,a25⟩:Cf)
def ATI(us:List U):Option UQ:=gI us fun a0 us=>gI us fun a1 us=>gI us fun a2 us=>gI us fun a3 us=>gI us fun a4 us=>gI us fun a5 us=>gI us fun a6 us=>gI us fun a7 us=>gL .i us fun a8 us=>gE us (⟨a0,⟨a1,a2,a3,a4,a5,a6⟩,a7,a8⟩:UQ)
def yL(us:List U):Option Br:=gI us fun a0 us=>gS us fun a1 us=>gI us fun a2 us=>gE us (⟨a0,a1,a2⟩:Br)
def yT(us:List U):Option Db:=gL .i us fun a0 us=>gI us fun a1 us=>gBo us fun a2 us=>gE us (⟨a0,a1,a2⟩:Db)
def yU(us:List U):Option Ax:=gL .u us fun a0 us=>gI us fun a1 us=>gI us fun a2 us=>gE us (⟨a0,a1,a2⟩:Ax)
def ofS:(n:Nat)->List U->Option (tD n)|0,us=>ATM us|1,us=>yP us|2,us=>yN us|3,us=>nC us|4,us=>yK us|5,us=>ATK us|6,us=>yR us|7,us=>yJ us|8,us=>yM us|9,us=>AH5 us|10,us=>yQ us|11,us=>nB us|12,us=>yO us|13,us=>yS us|14,us=>ATI us|15,us=>yL us|16,us=>yT us|17,us=>yU us|_+18,_=>none
def M4:Nat->List U->Option Unit|0,[]=>some ()|n+1,.un::us=>M4 n us|_,_=>none
def of1{α:Type}(us:List U)(f:U->Option α):Option α:=match us with | [u]=>f u|_=>none
def ofC:(c:C)->List U->Option c.D|.i,us=>of1 us toI|.u,us=>of1 us toU|.b,us=>of1 us AXO|.s,us=>of1 us toS|.m,us=>of1 us toM|.ki k,us=>of1 us (toN k)|.z,us=>of1 us toZ|.l c,us=>of1 us (toL c)|.st n,us=>ofS n us|.un n,us=>M4 n us
def AXu:(n:Nat)->Option (tD n)|0=>some (⟨0,0,0,0,0,0⟩:B3)|1=>some (⟨[],0,0,0,0,0,0,0,0⟩:Aa)|2=>some (⟨0,0,0,0,0,0,0,0,0,0⟩:AU)|3=>some (⟨0,0,0,0,0⟩:BI)|4=>some (⟨0,0,0,0⟩:Au)|5=>some (⟨0,0⟩:BY)|6=>some (⟨[]⟩:Aw)|7=>some (⟨⟨0,0,0,0,0⟩,[],⟨[]⟩⟩:Ae)|8=>some (⟨⟨[],0,0,0,0,0,0,0,0⟩,0,0,[],[],[],[]⟩:AE)|9=>some (⟨[],0⟩:Bp)|10=>some (⟨⟨[],0⟩,⟨[],0⟩,⟨[],0⟩⟩:BZ)|11=>some (⟨⟨⟨[],0,0,0,0,0,0,0,0⟩,0,0,[],[],[],[]⟩,⟨⟨[],0⟩,⟨[],0⟩,⟨[],0⟩⟩,0,[]⟩:Ap)|12=>some (⟨0,[]⟩:B6)|13=>some (⟨⟨⟨⟨[],0,0,0,0,0,0,0,0⟩,0,0,[],[],[],[]⟩,⟨⟨[],0⟩,⟨[],0⟩,⟨[],0⟩⟩,0,[]⟩,[],[],0⟩:Cf)|14=>some (⟨0,⟨0,0,0,0,0,0⟩,0,[]⟩:UQ)|15=>some (⟨0,[],0⟩:Br)|16=>some (⟨[],0,false⟩:Db)|17=>some (⟨[],0,0⟩:Ax)|_+18=>none
def AFC:(c:C)->Option c.D|.i=>some (0:Int)|.u=>some (0:UInt8)|.b=>some false|.s=>some ([]:List UInt8)|.m=>some ([]:List (Int×Int))|.ki _=>some (0:Int)|.z=>none|.l c=>some ([]:List c.D)|.st n=>AXu n|.un _=>none
def U.fg:U->T|.top=>.top|.un=>.un|.int k n=>.int k n|.u8 x=>.int .u8 x.toNat|.bool b=>.bool b|.str s=>.str s|.nil=>.nil|.np=>.np|.mp ks=>.mp ks|.sl c xs=>.sl c.size (xs.map (enc c))
def Tu:List C->Type| []=>Unit| [c]=>c.D|c::c'::cs=>c.D×Tu (c'::cs)
def Qj:(cs:List C)->Tu cs->List (List T)| [],_=>[]| [c],x=>[enc c x]|c::c'::cs,x=>enc c x.1::Qj (c'::cs) x.2
def ofT:(cs:List C)->List U->Option (Tu cs)
 | [],us=>match us with | []=>some ()|_=>none
 | [c],us=>ofC c us|c::c'::cs,us=>match ofC c (us.take c.size),ofT (c'::cs) (us.drop c.size) with|some a,some b=>some (a,b)|_,_=>none
inductive PK where
 |v(c:C)|p(c:C)|b(c:C)|o(c:C)|m(c:C)|f(x:B2)(caps:List (Bool×C))
def PK.md:PK->Md|.v _=>.v|.p _=>.p|.b _=>.b|.o _=>.o|.m _=>.m|.f _ _=>.v
def shC:C->Sh|.st _=>.agg|.un _=>.agg|_=>.one
def wC:C->Option Nat|.st n=>some (AXo n)|.un n=>some n|_=>none
def tt:List (Bool×C)->Type| []=>Unit|(_,c)::r=>c.D×tt r
def PK.D:PK->Type|.v c=>c.D|.p c=>c.D|.b c=>c.D|.o c=>c.D|.m c=>c.D|.f _ caps=>tt caps
def A:List PK->Type| []=>Unit|k::ks=>k.D×A ks
def SA:(l:List (Bool×C))->tt l->List V| [],_=>[]|(false,c)::r,x=>.v .one (enc c x.1)::SA r x.2|(true,c)::r,x=>.p (enc c x.1)::SA r x.2
def PK.V:(k:PK)->k.D->V|.v c,x=>.v (shC c) (enc c x)|.p c,x=>.p (enc c x)|.b c,x=>.b (enc c x)|.o c,x=>.o (shC c) (enc c x)|.m c,x=>.m (shC c) (enc c x)|.f x caps,y=>.f x (SA caps y)
def aVs:(ks:List PK)->A ks->List V| [],_=>[]|k::ks,x=>k.V x.1::aVs ks x.2
def Lb:List PK->List C| []=>[]|.b c::r=>c::Lb r|.m c::r=>c::Lb r|_::r=>Lb r
def fX:List PK->List B2| []=>[]|.f x _::r=>x::fX r|_::r=>fX r
inductive RK where
 |ret(cs:List C)|ptr(k:Nat)(c:C)|vw(k:Nat)(c:C)
def RK.cs:RK->List C|.ret cs=>cs|.ptr _ c=>[c]|.vw _ c=>[.l c]
def RK.sh:RK->Sh|.ret cs=>AEk (cs.map wC)|.ptr k _=>.ptr k|.vw k _=>.vw k
structure GF where
 x:B2
 ps:List PK
 rk:RK
 d:A ps->Option (Tu (rk.cs++Lb ps))
 ms:Eo x=ps.map PK.md
 ok:∀a r,d a=some r->Jb x (aVs ps a) rk.sh ((Qj _ r).take rk.cs.length).flatten ((Qj _ r).drop rk.cs.length)
structure Evs where
 bd:(α γ:Type)->Option α->(α->Option γ)->Option γ
 lp:(σ γ:Type)->((σ->Option γ)->σ->Option γ)->Nat->σ->Option γ
 jn:(σ γ:Type)->(σ->Option γ)->σ->Option γ
 eq:(α γ:Type)->α->α->Option γ->Option γ
 al:(γ:Type)->(Option γ->Option γ)->Option γ->Option γ
 ox:(γ:Type)->Option γ->Option γ->Option γ
def AML{σ γ:Type}(F:(σ->Option γ)->σ->Option γ):Nat->σ->Option γ|0,_=>none|n+1,x=>F (AML F n) x
open Classical in
def Evs.std:Evs where
 bd _ _ o f:=o.bind f
 lp _ _ F n x:=AML F n x
 jn _ _ F x:=F x
 eq _ _ a b x:=if a=b then x else none
 al _ F x:=F x
 ox _ x y:=match x with|some r=>some r|none=>y
def evX:Evs:=Classical.choose (p:=fun E=>E=Evs.std) ⟨_,rfl⟩
theorem OZ:evX=Evs.std:=Classical.choose_spec (p:=fun E=>E=Evs.std) ⟨_,rfl⟩
section
def orX{γ:Type}(x y:Option γ):Option γ:=evX.ox γ x y
def br{γ:Type}(b:Bool)(x y:Option γ):Option γ:=if b=true then x else y
def gd{γ:Type}(p:Prop)[i:Decidable p](x:Option γ):Option γ:=if p then x else none
def bd{α γ:Type}(o:Option α)(f:α->Option γ):Option γ:=evX.bd α γ o f
def BD{σ γ:Type}(F:(σ->Option γ)->σ->Option γ)(n:Nat)(x:σ):Option γ:=evX.lp σ γ F n x
def jn{σ γ:Type}(F:σ->Option γ)(x:σ):Option γ:=evX.jn σ γ F x
def eqv{α γ:Type}(a b:α)(x:Option γ):Option γ:=evX.eq α γ a b x
def alt{γ:Type}(F:Option γ->Option γ)(x:Option γ):Option γ:=evX.al γ F x
end
theorem AXl{γ:Type}(y:Option γ):orX none y=y:=by unfold orX;rw[OZ];rfl
theorem AXm{γ:Type}(r:γ)(y:Option γ):orX (some r) y=some r:=by unfold orX;rw[OZ];rfl
theorem AYz{γ:Type}{x y:Option γ}{r:γ}(h:orX x y=some r):x=some r\/y=some r:=by
 cases x with
 |none=>rw[AXl]at h;exact .inr h|some q=>rw[AXm]at h;exact .inl h
theorem AX7{γ:Type}(b:Bool)(x y:Option γ):br b x y=if b=true then x else y:=rfl
theorem ARF{γ:Type}(p:Prop) [Decidable p] (x:Option γ):gd p x=if p then x else none:=rfl
theorem AFI{α γ:Type}(o:Option α)(f:α->Option γ):bd o f=o.bind f:=by unfold bd;rw[OZ];rfl
theorem AS1{σ γ:Type}(F:σ->Option γ)(x:σ):jn F x=F x:=by unfold jn;rw[OZ];rfl
theorem AI9{γ:Type}(F:Option γ->Option γ)(x:Option γ):alt F x=F x:=by unfold alt;rw[OZ];rfl
open Classical in
theorem ALr{α γ:Type}(a b:α)(x:Option γ):eqv a b x=if a=b then x else none:=by unfold eqv;rw[OZ];rfl
theorem Ce{α γ:Type}(a:α)(x:Option γ):eqv a a x=x:=by rw[ALr,AW rfl]
theorem Si{α γ:Type}{a b:α}{x:Option γ}{r:γ}(h:eqv a b x=some r):a=b/\x=some r:=by
 grind[ALr]
theorem AMN{σ γ:Type}(F:(σ->Option γ)->σ->Option γ)(x:σ):BD F 0 x=none:=by unfold BD;rw[OZ];rfl
theorem EP{σ γ:Type}(F:(σ->Option γ)->σ->Option γ)(n:Nat)(x:σ):BD F (n+1) x=F (BD F n) x:=by
 have:∀m y,BD F m y=AML F m y:=fun m y=>by unfold BD;rw[OZ];rfl
 rw[this];show F (AML F n) x=_;congr 1;funext y;exact(this n y).symm
inductive Cap where
 |t(x:U)|vw(k:Nat)(c:C)(xs:List c.D)|vp(k:Nat)(cs:List U)|bp(id off:Nat)
namespace Y
def mem(k:Nat):List Nat->Bool
 | []=>false|x::xs=>match Nat.beq k x with|true=>true|false=>mem k xs
def CH.is:CH->CH->Bool
 |.tmp s c,.tmp s' c'=>match Nat.beq s s' with|true=>Nat.beq c c'|false=>false
 |.cell s c,.cell s' c'=>match Nat.beq s s' with|true=>Nat.beq c c'|false=>false
 |_,_=>false
def isR(o:Option CH)(r:CH):Bool:=match o with|some r'=>CH.is r' r|none=>false
def isN(o:Option Nat)(r:Nat):Bool:=match o with|some r'=>Nat.beq r' r|none=>false
def get{α:Type}:List (Nat×α)->Nat->Option α
 | [],_=>none|(k,a)::r,s=>match Nat.beq k s with|true=>some a|false=>get r s
def put{α:Type}:List (Nat×α)->Nat->α->List (Nat×α)
 | [],s,a=>[(s,a)]|(k,b)::r,s,a=>match Nat.beq s k with
  |true=>(s,a)::r|false=>match Nat.ble s k with|true=>(s,a)::(k,b)::r|false=>(k,b)::put r s a
def Jo{α:Type}(ks:List Nat):List (Nat×α)->List (Nat×α)
 | []=>[]|(k,b)::r=>match mem k ks with|true=>Jo ks r|false=>(k,b)::Jo ks r
def Gl{α:Type}(ks:List Nat):List (Nat×α)->List (Nat×α)
 | []=>[]|(k,b)::r=>match mem k ks with|true=>(k,b)::Gl ks r|false=>Gl ks r
inductive AT where
 |t(x:U)|und|ow(x:U)|owh(c:C)(xs:List c.D)(hs:List (Nat×Nat))|al(r:CH)(sub:Option (Nat×Nat))|ep(r:CH)(i:Int)(j:Nat)|vw(s:Src)(c:C)(xs:List c.D)|vp(s:Src)(cs:List U)|bp(id off:Nat)|fn(n:Nat)(caps:List Cap)
structure Ent where
 sh:Sh
 cs:List AT
 ver:Nat
structure Bx where
 cs:List AT
 ver:Nat
structure St where
 tm:List (Nat×Ent)
 bx:List (Nat×Bx)
 pin:List Nat
 nv:Nat
section
variable{γ:Type}
def DT(n:Nat)(K:Nat->γ):γ:=match n with|0=>K 0|k+1=>K (k+1)
def _root_.Lv.U.Fp(x:U)(K:U->γ):γ:=
 match x with
 |.top=>K .top|.int k n=>K (.int k n)|.u8 x=>K (.u8 x)|.bool b=>K (.bool b)|.str s=>K (.str s)|.nil=>K .nil|.np=>K .np|.un=>K .un|.sl c xs=>K (.sl c xs)|.mp ks=>K (.mp ks)
def dX:List U->(List U->γ)->γ| [],K=>K []|x::xs,K=>x.Fp fun x=>dX xs fun xs=>K (x::xs)
def kj(r:CH)(K:CH->γ):γ:=
 match r with
 |.tmp s c=>DT s fun s=>DT c fun c=>K (.tmp s c)|.cell s c=>DT s fun s=>DT c fun c=>K (.cell s c)
def Sk(s:Src)(K:Src->γ):γ:=
 match s with
 |.own r p=>kj r fun r=>match p with|none=>K (.own r none)|some (i,j)=>DT j fun j=>K (.own r (some (i,j)))
 |.old k=>DT k fun k=>K (.old k)
def AT.Fp(l:AT)(K:AT->γ):γ:=
 match l with
 |.t x=>x.Fp fun x=>K (.t x)|.und=>K .und|.ow x=>x.Fp fun x=>K (.ow x)|.owh c xs hs=>K (.owh c xs hs)|.al r sub=>kj r fun r=>match sub with|none=>K (.al r none)|some (a,b)=>K (.al r (some (a,b)))
 |.ep r i j=>kj r fun r=>DT j fun j=>K (.ep r i j)|.vw s c xs=>Sk s fun s=>K (.vw s c xs)|.vp s cs=>Sk s fun s=>dX cs fun cs=>K (.vp s cs)|.bp id off=>DT id fun id=>DT off fun off=>K (.bp id off)|.fn n caps=>K (.fn n caps)
def T2:List AT->(List AT->γ)->γ| [],K=>K []|x::xs,K=>x.Fp fun x=>T2 xs fun xs=>K (x::xs)
def T3:List (Option Nat)->(List (Option Nat)->γ)->γ| [],K=>K []|none::xs,K=>T3 xs fun xs=>K (none::xs)|some n::xs,K=>DT n fun n=>T3 xs fun xs=>K (some n::xs)
def dW(s:Sh)(K:Sh->γ):γ:=
 match s with
 |.one=>K .one|.agg=>K .agg|.tup ns=>T3 ns fun ns=>K (.tup ns)|.ptr k=>K (.ptr k)|.vw k=>K (.vw k)
def vP:List (Nat×Ent)->(List (Nat×Ent)->γ)->γ| [],K=>K []|(k,⟨sh,cs,v⟩)::xs,K=>dW sh fun sh=>T2 cs fun cs=>DT v fun v=>vP xs fun xs=>K ((k,⟨sh,cs,v⟩)::xs)
def vO:List (Nat×Bx)->(List (Nat×Bx)->γ)->γ| [],K=>K []|(k,⟨cs,v⟩)::xs,K=>T2 cs fun cs=>DT v fun v=>vO xs fun xs=>K ((k,⟨cs,v⟩)::xs)
def vQ:List Nat->(List Nat->γ)->γ| [],K=>K []|x::xs,K=>vQ xs fun xs=>K (x::xs)
def St.Fp(S:St)(K:St->γ):γ:=
 match S with
 |⟨tm,bx,pin,nv⟩=>vP tm fun tm=>vO bx fun bx=>vQ pin fun pin=>DT nv fun nv=>K ⟨tm,bx,pin,nv⟩
end
structure En where
 sh:Sh
 cs:List AT
def AT.B1:AT->Option CH|.al r _=>some r|.ep r _ _=>some r|.vw (.own r _) _ _=>some r|.vp (.own r _) _=>some r|_=>none
def _root_.Lv.Cap.Ly:Cap->Option Nat|.bp id _=>some id|_=>none
def AT.Ly:AT->Option Nat|.bp id _=>some id|.al (.cell id _) _=>some id|.ep (.cell id _) _ _=>some id|.vw (.own (.cell id _) _) _ _=>some id|.vp (.own (.cell id _) _) _=>some id|_=>none
def AT.AX9:AT->Option Cap|.t x=>some (.t x)|.vw (.old k) c xs=>some (.vw k c xs)|.vp (.old k) cs=>some (.vp k cs)|.bp id off=>some (.bp id off)|_=>none
def _root_.Lv.Cap.leaf:Cap->AT|.t x=>.t x|.vw k c xs=>.vw (.old k) c xs|.vp k cs=>.vp (.old k) cs|.bp id off=>.bp id off
def names:AT->List Nat|.bp id _=>[id]|.fn _ caps=>caps.filterMap Lv.Cap.Ly|_=>[]
def Ec(q:AT->Bool):List AT->List AT| []=>[]|l::ls=>(if q l=true then .t .top else l)::Ec q ls
def LM(v:Nat)(q:AT->Bool):List (Nat×Ent)->List (Nat×Ent)| []=>[]|(k,e)::r=>(k,if e.cs.any q=true then ⟨e.sh,Ec q e.cs,v⟩ else e)::LM v q r
def LL(v:Nat)(q:AT->Bool):List (Nat×Bx)->List (Nat×Bx)| []=>[]|(k,e)::r=>(k,if e.cs.any q=true then ⟨Ec q e.cs,v⟩ else e)::LL v q r
def St.kill(S:St)(q:AT->Bool):St:=⟨LM S.nv q S.tm,LL S.nv q S.bx,S.pin,S.nv+1⟩
def St.J8(S:St)(d:Nat)(sh:Sh)(cs:List AT):St:=⟨put S.tm d ⟨sh,cs,S.nv⟩,S.bx,S.pin,S.nv+1⟩
def St.OM(S:St)(d:Nat)(cs:List AT):St:=⟨S.tm,put S.bx d ⟨cs,S.nv⟩,S.pin,S.nv+1⟩
def La(r:CH)(l:AT):Bool:=isR l.B1 r
def FZ(r:CH):AT->Bool|.vw (.own r' _) _ _=>CH.is r' r|.vp (.own r' _) _=>CH.is r' r|_=>false
def E8(d:Nat)(l:AT):Bool:=match l.B1 with|some (.tmp s _)=>Nat.beq s d|_=>false
def Fl(d:Nat):AT->Bool|.fn _ caps=>caps.any fun l=>isN l.Ly d|l=>isN l.Ly d
def LZ(ks:List Nat):AT->Bool
 |.fn _ caps=>caps.any fun l=>match l.Ly with|some d=>!mem d ks|none=>false
 |l=>match l.Ly with|some d=>!mem d ks|none=>false
def Iq(ks:List Nat)(l:AT):Bool:=
 (match l.B1 with|some (.tmp s _)=>!mem s ks|_=>false)||LZ ks l
def Zz(ks:List Nat)(l:AT):Bool:=match l.B1 with|some (.tmp s _)=>mem s ks|_=>false
def St.IQ(S:St)(ks:List Nat):St:=⟨LM S.nv (Zz ks) (Jo ks S.tm),LL S.nv (Zz ks) S.bx,S.pin,S.nv+1⟩
def St.clean(S:St)(ks:List Nat):St:=⟨LM S.nv (Iq ks) (Gl ks S.tm),LL S.nv (Iq ks) (Gl ks S.bx),S.pin,S.nv+1⟩
def AT.refs(l:AT):List Nat:=(match l.B1 with|some (.tmp s _)=>[s]|some (.cell b _)=>[b]|none=>[])++names l
def AU3(ks:List Nat):List (Nat×Ent)->List Nat
 | []=>[]|(k,e)::r=>match mem k ks with|true=>e.cs.flatMap AT.refs++AU3 ks r|false=>AU3 ks r
def AU2(ks:List Nat):List (Nat×Bx)->List Nat
 | []=>[]|(k,e)::r=>match mem k ks with|true=>e.cs.flatMap AT.refs++AU2 ks r|false=>AU2 ks r
def St.clo(S:St):Nat->List Nat->List Nat
 |0,ks=>ks|n+1,ks=>match (AU3 ks S.tm++AU2 ks S.bx).filter (fun k=>!mem k ks) with| []=>ks|more=>S.clo n (ks++more)
def St.uP(S:St)(ks:List Nat):St:=S.clean (S.clo 6 (S.pin++ks))
def St.at(S:St):CH->Option AT
 |.tmp s c=>match get S.tm s with|some e=>e.cs[c]?|none=>none
 |.cell b c=>match get S.bx b with|some ls=>ls.cs[c]?|none=>none
def St.Bk(S:St)(r:CH)(l:AT):St:=
 match r with
 |.tmp s c=>match get S.tm s with|some e=>S.J8 s e.sh (e.cs.set c l)|none=>S
 |.cell b c=>match get S.bx b with|some ls=>S.OM b (ls.cs.set c l)|none=>S
inductive Rw where
 |nl|of(c:C)(xs:List c.D)
def content:U->Option Rw|.nil=>some .nl|.sl c xs=>some (.of c xs)|_=>none
def oQ{α:Type}(sub:Option (Nat×Nat))(xs:List α):List α:=
 match sub with
 |none=>xs|some (lo,n)=>(xs.drop lo).take n
def Rw.sub(sub:Option (Nat×Nat)):Rw->Rw|.nl=>.nl|.of c xs=>.of c (oQ sub xs)
def Rw.as(c:C):Rw->Option (List c.D)|.nl=>some []|.of c' xs=>if h:c'=c then some (h▸xs) else none
def AIv(sub:Option (Nat×Nat)):U->U|.sl c xs=>.sl c (oQ sub xs)|x=>x
def St.elems(S:St):AT->Option Rw
 |.al r sub=>match S.at r with
  |some (.ow x)=>match content x with|some w=>some (w.sub sub)|none=>none
  |_=>none
 |.vw _ c xs=>some (.of c xs)|.t .nil=>some .nl|_=>none
def AT.ali(s c:Nat):AT->AT|.ow _=>.al (.tmp s c) none|.owh _ _ _=>.al (.tmp s c) none|l=>l
def R6(s:Nat):Nat->List AT->List AT|_,[]=>[]|c,l::ls=>l.ali s c::R6 s (c+1) ls
def sX:U->AT|.sl c xs=>.vw (.old 0) c xs|x=>.t x
inductive YO where
 |tmp(t:Nat)|k(x:U)|fn(n:Nat)
def St.rd(S:St):YO->Option En
 |.tmp s=>match get S.tm s with|some e=>some ⟨e.sh,R6 s 0 e.cs⟩|none=>none
 |.k x=>some ⟨.one,[sX x]⟩|.fn n=>some ⟨.one,[.fn n []]⟩
def St.rds(S:St):List YO->Option (List En)
 | []=>some []|x::xs=>match S.rd x,S.rds xs with|some e,some es=>some (e::es)|_,_=>none
def St.EL(S:St)(d:Nat)(sh:Sh)(cs:List AT):Option St:=
 match mem d S.pin with|true=>none|false=>match get S.tm d with|none=>some (S.J8 d sh cs)|some _=>some ((S.kill (E8 d)).J8 d sh (Ec (E8 d) cs))
def TR(l l':AT):Bool:=
 (match l.B1 with|some r=>isR l'.B1 r|none=>false)||(names l).any (fun id=>Fl id l')||(names l').any (fun id=>Fl id l)
def RO(l l':AT):Bool:=
 (match l.B1 with|some r=>isR l'.B1 r|none=>false)||(names l).any (fun id=>Fl id l')
def yA:AT->Bool|.al _ _=>true|_=>false
def OH:List AT->Bool
 | []=>true|l::ls=>(ls.all fun l'=>!((yA l||yA l')&&(match l.B1 with|some r=>isR l'.B1 r|none=>l'.B1.isNone)))&&OH ls
def St.out(S:St)(r:CH):St:=(S.Bk r (.t .top)).kill (La r)
def St.nl0(S:St)(r:CH)(c:C):AT:=match r with|.cell id _=>(match mem id S.pin with|true=>.vw (.old id) c []|false=>.ow (.sl c []))|.tmp _ _=>.ow (.sl c [])
def St.turn(S:St)(r:CH):St:=match S.at r with
 |some (.al r' none)=>match S.at r' with|some (.ow x)=>((S.out r').Bk r (.ow x)).Bk r' (.al r none)|some (.owh c xs hs)=>((S.out r').Bk r (.owh c xs hs)).Bk r' (.al r none)|_=>S
 |_=>S
def St.aH(S:St)(r:CH)(c:C):St:=match Nat.beq c.size 0 with
 |true=>S.turn r|false=>match S.at r with|some (.t .nil)=>S.Bk r (S.nl0 r c)|_=>S
def St.RB(S:St):List (CH×C)->St| []=>S|(r,c)::ns=>St.RB (S.aH r c) ns
def Jt:St->List AT->Option (St×List AT)
 |S,[]=>some (S,[])|S,l::ls=>match l with
  |.al r sub=>match S.at r with
   |some (.ow x)=>match Jt (S.out r) ls with|some (S',ls')=>some (S',.ow (AIv sub x)::ls')|none=>none
   |_=>none
  |l=>match Jt S ls with|some (S',ls')=>some (S',l::ls')|none=>none
def LP(S:St)(ls:List AT):Option (St×List AT):=if OH ls=true then Jt S ls else none
def uK(S:St)(x:YO)(ls:List AT):Option (St×List AT):=match x with|.tmp s=>(match mem s S.pin with|true=>some (S,ls)|false=>LP S ls)|_=>LP S ls
def Rm:U->Bool|.top=>true|_=>false
def Z6:U->Bool|.top=>true|.un=>true|_=>false
def St.pull(S:St)(r:CH)(i j:Nat):Option St:=
 match S.at r with
 |some (.ow (.sl c xs))=>some ((S.Bk r (.owh c xs [(i,j)])).kill (FZ r))|some (.owh c xs hs)=>some ((S.Bk r (.owh c xs (hs++[(i,j)]))).kill (FZ r))|_=>none
def onR(r:CH):List AT->Bool| []=>false|l::ls=>isR l.B1 r||onR r ls
def Dm:St->List AT->Option (St×List U)
 |S,[]=>some (S,[])|S,l::ls=>match l with
  |.t x=>if Rm x=true then none else match Dm S ls with|some (S',cs)=>some (S',x::cs)|none=>none
  |.al r sub=>match S.at r with
   |some (.ow x)=>match Dm (S.out r) ls with|some (S',cs)=>some (S',AIv sub x::cs)|none=>none
   |_=>none
  |.vw (.own r p) c xs=>match p with
   |none=>match S.at r with
    |some (.ow _)=>match Dm (S.out r) ls with|some (S',cs)=>some (S',.sl c xs::cs)|none=>none
    |_=>none
   |some (i,j)=>if onR r ls=true then none else match S.pull r i j with
    |some S1=>match Dm S1 ls with|some (S',cs)=>some (S',.sl c xs::cs)|none=>none
    |none=>none
  |_=>none
def St.HX(S:St):AT->Option U
 |.t x=>some x|.al r sub=>match S.at r with|some (.ow x)=>some (AIv sub x)|_=>none
 |.vw _ c xs=>some (.sl c xs)|.ow x=>some x|_=>none
def St.HR(S:St):List AT->Option (List U)
 | []=>some []|l::ls=>match S.HX l,S.HR ls with|some x,some xs=>some (x::xs)|_,_=>none
def PW(k:Nat):AT->Option U|.t x=>some x|.vw (.old k') c xs=>if k'=k then some (.sl c xs) else none|_=>none
def Fh(k:Nat):List AT->Option (List U)
 | []=>some []|l::ls=>match PW k l,Fh k ls with|some x,some xs=>some (x::xs)|_,_=>none
def Da:List AT->Nat| []=>0|.vw (.old k) _ _::_=>k|_::ls=>Da ls
def EZ(k:Nat):U->AT|.sl c xs=>.vw (.old k) c xs|.mp _=>.t .top|x=>.t x
def Jr:U->AT|.sl c xs=>.ow (.sl c xs)|.mp ks=>.ow (.mp ks)|.nil=>.ow .nil|x=>.t x
def Kr(s:Src):U->AT|.sl c xs=>.vw s c xs|.mp _=>.t .top|x=>.t x
def Om:List AT->Bool| []=>true|l::ls=>l.B1.isNone&&Om ls
def RI:AT->Bool|.t _=>true|.al _ none=>true|.vw (.own _ (some _)) _ _=>true|_=>false
def AYA(S:St):Bool->Cap->Option (List U)
 |false,.t x=>some [x]|false,.vw _ c xs=>some [.sl c xs]|true,.bp id off=>match get S.bx id with|some ls=>if Om ls.cs=true then S.HR (ls.cs.drop off) else none|none=>none
 |true,.vp _ cs=>some cs|_,_=>none
def AJU(S:St):(l:List (Bool×C))->List Cap->Option (tt l)
 | [],[]=>some ()|(m,c)::r,l::ls=>match AYA S m l with
  |some us=>match ofC c us,AJU S r ls with|some x,some y=>some (x,y)|_,_=>none
  |none=>none
 |_,_=>none
section
variable(R:List GF)
def AX1(S:St)(c:C)(e:En):Option c.D:=match S.HR e.cs with|some us=>ofC c us|none=>none
def AXz(S:St)(fs:List Nat)(l:List (Bool×C))(e:En):Option (tt l):=
 match e with
 |⟨.one,[.fn n caps]⟩=>match fs with|n'::_=>if n'=n then AJU S l caps else none| []=>none
 |_=>none
def AX0(S:St)(c:C)(e:En):Option c.D:=
 match e with
 |⟨.one,[.bp id off]⟩=>match get S.bx id with
  |some ls=>if Om ls.cs=true then match S.HR (ls.cs.drop off) with|some us=>ofC c us|none=>none else none
  |none=>none
 |⟨.one,[.vp _ cs]⟩=>ofC c cs|_=>none
def AXy(S:St)(c:C)(e:En):Option c.D:=
 match e with
 |⟨.one,[.bp id 0]⟩=>match get S.bx id with
  |some ls=>match Fh (Da ls.cs) ls.cs with|some us=>ofC c us|none=>none
  |none=>none
 |_=>none
def PK.E9:PK->Bool|.o _=>true|.m _=>true|_=>false
def PK.writes:PK->Bool|.b _=>true|.o _=>true|.m _=>true|_=>false
def HV:List PK->List En->List AT|k::ks,e::es=>(if PK.E9 k=true then e.cs else [])++HV ks es|_,_=>[]
def APO:Sh->Sh->Bool|.one,.one=>true|.agg,.agg=>true|_,_=>false
def JC(S:St):List Nat->(ks:List PK)->List En->List U->Option (A ks)
 |_,[],[],_=>some ()|fs,k::ks,e::es,us=>match k with
  |.o c=>if APO e.sh (shC c)=true then match ofC c (us.take e.cs.length),JC S fs ks es (us.drop e.cs.length) with|some x,some y=>some (x,y)|_,_=>none else none
  |.m c=>if APO e.sh (shC c)=true/\e.cs.all RI=true/\GI e.sh e.cs.length=true then match ofC c (us.take e.cs.length),JC S fs ks es (us.drop e.cs.length) with|some x,some y=>some (x,y)|_,_=>none else none
  |.f x l=>match AXz S fs l e,JC S fs.tail ks es us with|some x,some y=>some (x,y)|_,_=>none
  |.v c=>if APO e.sh (shC c)=true then match AX1 S c e,JC S fs ks es us with|some x,some y=>some (x,y)|_,_=>none else none
  |.p c=>match AX0 S c e,JC S fs ks es us with|some x,some y=>some (x,y)|_,_=>none
  |.b c=>match AXy S c e,JC S fs ks es us with|some x,some y=>some (x,y)|_,_=>none
 |_,_,_,_=>none
def Es:St->List PK->List En->St
 |S,k::ks,e::es=>match k with
  |.b _=>match e with
   |⟨.one,[.bp id 0]⟩=>match get S.bx id with|some ls=>Es (S.OM id (ls.cs.map fun _=>.t .top)) ks es|none=>Es S ks es
   |_=>Es S ks es
  |_=>Es S ks es
 |S,_,_=>S
def V2(S:St)(fs:List Nat)(ks:List PK)(es:List En):Option (St×A ks):=
 match Dm S (HV ks es) with
 |some (S1,us)=>match JC S fs ks es us with|some a=>some (Es S1 ks es,a)|none=>none
 |none=>none
def HT{ρ:Type}:St->List AT->List U->(St->Option ρ)->Option ρ
 |S,[],[],K=>K S|S,l::ls,o::os,K=>match l with
  |.al r none=>HT (S.Bk r (.ow o)) ls os K|.vw (.own r (some (i,j))) _ _=>match S.at r with
   |some (.owh c xs ((i',j')::hs))=>if j'=j/\hs.all (fun p=>!Nat.beq p.2 j)=true then gd (i'=i) (bd xs[i]? fun x=>match ofC c ((cells c x).set j o) with
    |some x'=>HT ((S.Bk r (match hs with | []=>.ow (.sl c (xs.set i x'))|_=>.owh c (xs.set i x') hs)).kill (FZ r)) ls os K
    |none=>none)
    else none
   |_=>none
  |.t _=>HT S ls os K|_=>none
 |_,_,_,_=>none
def Fg{ρ:Type}(S0:St):St->List PK->List En->List (List U)->(St->Option ρ)->Option ρ
 |S,[],_,[],K=>K S|S,k::ks,e::es,outs,K=>match k with
  |.b _=>match e,outs with
   |⟨.one,[.bp id 0]⟩,o::outs=>match get S0.bx id,get S.bx id with|some ls,some ls1=>if o.length=ls1.cs.length then Fg S0 (S.OM id (o.map (EZ (Da ls.cs)))) ks es outs K else none|_,_=>none
   |_,_=>none
  |.m _=>match outs with|o::outs=>HT S e.cs o fun S'=>Fg S0 S' ks es outs K|_=>none
  |_=>Fg S0 S ks es outs K
 |_,_,_,_,_=>none
def shares(e e':En):Bool:=e.cs.any fun l=>e'.cs.any fun l'=>TR l l'
def PZ:List En->List PK->List En->Bool|prev,k::ks,e::es=>(PK.writes k&&(prev.any (shares e)||es.any (shares e)))||PZ (e::prev) ks es|_,_,_=>false
def AIp:Option En->Option U|some ⟨.one,[.t x]⟩=>some x|_=>none
def St.sc(S:St)(x:YO):Option U:=AIp (S.rd x)
def AZq:U->Option Int|.int _ n=>some n|.u8 x=>some (x.toNat:Int)|_=>none
def St.nat(S:St)(x:YO):Option Int:=match S.sc x with|some u=>AZq u|none=>none
def St.one(S:St)(x:YO):Option AT:=match S.rd x with|some ⟨.one,[l]⟩=>some l|_=>none
def eqU:Kd->U->U->Option Bool|.i,.int k a,.int k' b=>if k=k' then some (a==b) else none|.b,.bool a,.bool b=>some (a==b)|.s,.str a,.str b=>some (a==b)|_,_,_=>none
def ADL:List Kd->List U->List U->Option Bool
 | [],[],[]=>some true|k::ks,a::as,b::bs=>match eqU k a b,ADL ks as bs with|some x,some y=>some (x&&y)|_,_=>none
 |_,_,_=>none
def Vu:List AT->Option (List U)
 | []=>some []|.t x::ls=>match Vu ls with|some us=>some (x::us)|none=>none
 |_=>none
section
variable{ρ:Type}
def gdc(cst:Bool)(p:Prop) [Decidable p] (x:Option ρ):Option ρ:=match cst with|true=>if p then x else none|false=>gd p x
def AYQ(cst:Bool)(op:BinOp)(k:IntKind)(a b:Int)(K:U->Option ρ):Option ρ:=
 match op with
 |.add=>K (.int k (k.wrap (a+b)))|.sub=>K (.int k (k.wrap (a-b)))|.mul=>K (.int k (k.wrap (a*b)))|.quo=>gdc cst (b≠0) (K (.int k (k.wrap (a.tdiv b))))|.rem=>gdc cst (b≠0) (K (.int k (a.tmod b)))|.and=>K (.int k (k.wrap (BitVec.ofInt k.bits a &&& BitVec.ofInt k.bits b).toNat))|.or=>K (.int k (k.wrap (BitVec.ofInt k.bits a |||BitVec.ofInt k.bits b).toNat))|.xor=>K (.int k (k.wrap (BitVec.ofInt k.bits a ^^^ BitVec.ofInt k.bits b).toNat))|.eql=>K (.bool (a==b))|.neq=>K (.bool (a != b))|.lss=>K (.bool (decide (a<b)))|.leq=>K (.bool (decide (a<=b)))|.gtr=>K (.bool (decide (a>b)))|.geq=>K (.bool (decide (a>=b)))|_=>none
def shU(cst:Bool)(op:BinOp)(k:IntKind)(a b:Int)(K:U->Option ρ):Option ρ:=
 match op with
 |.shl=>gdc cst (¬b<0) (K (.int k (k.wrap (a*2 ^ (min b.toNat k.bits)))))|.shr=>gdc cst (¬b<0) (K (.int k (a.fdiv (2 ^ (min b.toNat k.bits)))))|_=>none
def byU(op:BinOp)(a b:Int)(K:U->Option ρ):Option ρ:=
 match op with
 |.add=>K (.u8 (toB (a+b)))|.sub=>K (.u8 (toB (a-b)))|.mul=>K (.u8 (toB (a*b)))|.and=>K (.u8 (toB (BitVec.ofInt IntKind.u8.bits a &&& BitVec.ofInt IntKind.u8.bits b).toNat))|.or=>K (.u8 (toB (BitVec.ofInt IntKind.u8.bits a |||BitVec.ofInt IntKind.u8.bits b).toNat))|.xor=>K (.u8 (toB (BitVec.ofInt IntKind.u8.bits a ^^^ BitVec.ofInt IntKind.u8.bits b).toNat))|.eql=>K (.bool (a==b))|.neq=>K (.bool (a != b))|.lss=>K (.bool (decide (a<b)))|.leq=>K (.bool (decide (a<=b)))|.gtr=>K (.bool (decide (a>b)))|.geq=>K (.bool (decide (a>=b)))|_=>none
def AWg:BinOp->Bool|.shl=>true|.shr=>true|_=>false
def AX4(cst:Bool)(op:BinOp):U->U->(U->Option ρ)->Option ρ
 |.int k a,.int k' b,K=>if AWg op=true then shU cst op k a b K else if k=k' then (if k=.u8 then none else AYQ cst op k a b K) else none|.int k a,.u8 b,K=>if AWg op=true then shU cst op k a b.toNat K else none|.u8 a,.u8 b,K=>byU op a.toNat b.toNat K|.str a,.str b,K=>match op with|.add=>gd (a.length+b.length<=Mn) (K (.str (a++b)))|.eql=>K (.bool (a==b))|.neq=>K (.bool (a != b))|_=>none
 |_,_,_=>none
def eqK(op:BinOp)(b:Bool)(K:U->Option ρ):Option ρ:=match op with|.eql=>K (.bool b)|.neq=>K (.bool !b)|_=>none
def St.VY(S:St)(l:AT)(K:Bool->Option ρ):Option ρ:=
 match l with
 |.t .nil=>K true|.vw _ _ xs=>gd (xs.isEmpty=false) (K false)|.al r none=>match S.at r with|some (.ow .nil)=>K true|some (.ow (.sl _ xs))=>gd (xs.isEmpty=false) (K false)|_=>none
 |_=>none
def St.bin(S:St)(cst:Bool)(c:Cls)(op:BinOp)(x y:En)(K:U->Option ρ):Option ρ:=
 match c with
 |.num=>match x,y with|⟨.one,[.t a]⟩,⟨.one,[.t b]⟩=>AX4 cst op a b K|_,_=>none
 |.bool=>match x,y with|⟨.one,[.t (.bool a)]⟩,⟨.one,[.t (.bool b)]⟩=>eqK op (a==b) K|_,_=>none
 |.sl=>match x,y with|⟨.one,[l]⟩,⟨.one,[.t .nil]⟩=>S.VY l fun b=>eqK op b K|_,_=>none
 |.agg ks=>match x,y with
  |⟨.agg,as⟩,⟨.agg,bs⟩=>match Vu as,Vu bs with
   |some as,some bs=>match ADL ks as bs with|some b=>eqK op b K|none=>none
   |_,_=>none
  |_,_=>none
def unU(op:UnOp)(x:U)(K:U->Option ρ):Option ρ:=
 match x with
 |.bool b=>match op with|.not=>K (.bool !b)|_=>none
 |.int k n=>match op with|.neg=>if k=.u8 then none else K (.int k (k.wrap (0-n)))|_=>none
 |_=>none
def mkInt(k:IntKind)(n:Int):U:=match k with|.u8=>.u8 (toB n)|k=>.int k (k.wrap n)
end
def AXh:List U->Bool| []=>true|.sl _ _::_=>false|.top::_=>false|.mp _::_=>false|_::us=>AXh us
def Uh:C->Bool
 |.l _=>false|.m=>false|.st n=>match AXu n with|some z=>AXh (AFN n z)|none=>false
 |.un _=>false|_=>true
def AVr(c:C)(x:U)(ys:List c.D):Option U:=
 match x with
 |.sl c' xs=>if h:c'=c then some (.sl c ((h▸xs)++ys)) else none|_=>some (.sl c ys)
def PO(c:C)(fl:Bool)(S:St)(l:AT):Option (St×List c.D):=
 match l with
 |.t (.str s)=>match Rw.as c (.of .u s) with|some xs=>some (S,xs)|none=>none
 |.t .nil=>some (S,[])|.vw _ c' xs=>if Uh c=true then match Rw.as c (.of c' xs) with|some ys=>some (S,ys)|none=>none else none
 |.al r sub=>match S.at r with
  |some (.ow x)=>match content x with
   |some w=>match Rw.as c (w.sub sub) with|some ys=>if fl=true then (if Uh c=true then some (S,ys) else none) else some (S.out r,ys)|none=>none
   |none=>none
  |_=>none
 |_=>none
def Rf(c:C)(S:St)(l:AT):Option (St×U×Nat×Option (Nat×Nat)):=
 match l with
 |.t .nil=>some (S,.nil,0,none)|.al r sub=>match S.at r with
  |some (.ow x)=>match content x with
   |some w=>match Rw.as c w with
    |some xs=>some (S.out r,AIv sub x,(oQ sub xs).length,match sub with|none=>none|some (lo,n)=>some (lo+n,xs.length))
    |none=>none
   |none=>none
  |_=>none
 |.vw (.own r (some (i,j))) c' xs=>if c'=c then match S.pull r i j with|some S'=>some (S',.sl c' xs,xs.length,none)|none=>none else none
 |_=>none
def gdo{γ:Type}(p:Option (Nat×Nat))(x:Option γ):Option γ:=match p with|none=>x|some (a,b)=>gd (a=b) x
def Mk(off:Nat):AT->Option AT|.bp id o=>some (.bp id (o+off))|.ep r i j=>some (.ep r i (j+off))|.vp s cs=>some (.vp s (cs.drop off))|_=>none
def Je(r:CH)(i:Nat):Nat->List U->List AT|_,[]=>[]|j,x::xs=>Kr (.own r (some (i,j))) x::Je r i (j+1) xs
def Qa(b:Nat):Nat->List AT->List AT|_,[]=>[]|c,.ow _::ls=>.al (.cell b c) none::Qa b (c+1) ls|c,.owh _ _ _::ls=>.al (.cell b c) none::Qa b (c+1) ls|c,l::ls=>l::Qa b (c+1) ls
def ID(b o n:Nat)(l:AT):Bool:=match l.B1 with|some (.cell b' c)=>Nat.beq b' b&&Nat.ble o c&&Nat.blt c (o+n)|_=>false
def H4:List AT->Bool| []=>false|.t .top::_=>true|.und::_=>true|_::ls=>H4 ls
def Rl:AT->Bool|.bp _ _=>true|.ep _ _ _=>true|.vp _ _=>true|_=>false
section
variable{ρ:Type}
def St.load(S:St)(n:Nat)(l:AT)(K:List AT->Option ρ):Option ρ:=
 match l with
 |.bp id o=>match get S.bx id with|some ls=>if o+n<=ls.cs.length then K (Qa id o ((ls.cs.drop o).take n)) else none|none=>none
 |.ep r i j=>match S.at r with|some (.ow (.sl c xs))=>bd (at? xs i) fun x=>if j+n<=(cells c x).length then K (Je r i.toNat j (((cells c x).drop j).take n)) else none|_=>none
 |.vp s cs=>if n<=cs.length then K ((cs.take n).map (Kr s.up)) else none|_=>none
def O5(i j n:Nat):List (Nat×Nat)->Prop| []=>True|(i',j')::hs=>i'=i/\(j<=j'/\j'<j+n)/\O5 i j n hs
def db(i j n:Nat):(hs:List (Nat×Nat))->Decidable (O5 i j n hs)| []=>.isTrue trivial|(i',j')::hs=>@instDecidableAnd _ _ (instDecidableEqNat i' i) (@instDecidableAnd _ _ (@instDecidableAnd _ _ (Nat.decLe j j') (Nat.decLt j' (j+n))) (db i j n hs))
def Yh(n:Nat)(S:St)(ls:List AT):Option (St×List AT):=match Nat.blt n 1048576 with|true=>LP S ls|false=>some (S,ls)
def St.RV(S:St)(n:Nat)(p:AT)(cs:List AT)(K:St->Option ρ):Option ρ:=
 match p with
 |.bp id o=>match Yh n S cs with
  |some (S',cs')=>if H4 cs'=true then none else
   let S2:=S'.kill (ID id o cs'.length)
   match get S2.bx id with
   |some ls=>if o+cs'.length<=ls.cs.length then K (S2.OM id (D1 ls.cs o (Ec (ID id o cs'.length) cs'))) else none|none=>none
  |none=>none
 |.ep r i j=>match Dm S cs with
  |some (S',us)=>match S'.at r with
   |some (.ow (.sl c xs))=>bd (at? xs i) fun x=>if j+us.length<=(cells c x).length then match ofC c (D1 (cells c x) j us) with
    |some x'=>K ((S'.Bk r (.ow (.sl c (xs.set i.toNat x')))).kill (FZ r))|none=>none
    else none
   |some (.owh c xs hs)=>bd (at? xs i) fun x=>if j+us.length<=(cells c x).length then match ofC c (D1 (cells c x) j us) with
    |some x'=>@gd _ (O5 i.toNat j us.length hs) (db i.toNat j us.length hs) (K ((S'.Bk r (.ow (.sl c (xs.set i.toNat x')))).kill (FZ r)))|none=>none
    else none
   |_=>none
  |none=>none
 |_=>none
end
def MW(S:St):List AT->List (Nat×Nat×YO)->Option (List AT)
 |ls,[]=>some ls|ls,(o,n,x)::ps=>match S.rd x with|some e=>if e.cs.length=n/\GI e.sh n=true/\H4 e.cs=false/\o+n<=ls.length then MW S (D1 ls o e.cs) ps else none|none=>none
def ADl(i n:Nat):List (Nat×YO)->Bool| []=>i==n|(k,_)::ps=>k==i&&ADl (i+1) n ps
def bsL(c:C)(n:Nat):St->List (Nat×YO)->Option (St×List c.D)
 |S,[]=>some (S,[])|S,(i,x)::ps=>match S.rd x with
  |some e=>if e.cs.length=c.size/\GI e.sh e.cs.length=true/\i<n then match Dm S e.cs with
   |some (S',us)=>match ofC c us,bsL c n S' ps with|some y,some (S2,ys)=>some (S2,y::ys)|_,_=>none
   |none=>none
   else none
  |none=>none
def bsK(c:C)(n:Nat):St->List c.D->List (Nat×YO)->Option (St×List c.D)
 |S,xs,[]=>some (S,xs)|S,xs,(i,x)::ps=>match S.rd x with
  |some e=>if e.cs.length=c.size/\GI e.sh e.cs.length=true/\i<n then match Dm S e.cs with
   |some (S',us)=>match ofC c us with|some y=>bsK c n S' (xs.set i y) ps|none=>none
   |none=>none
   else none
  |none=>none
def ADm:Sh->Bool|.one=>true|_=>false
def St.wide(S:St)(c:C):AT->Bool
 |.vw _ c' _=>decide (c'=c)|.al r _=>match S.at r with
  |some (.ow x)=>match x with|.sl c' _=>decide (c'=c)|_=>true
  |some (.owh c' _ _)=>decide (c'=c)|_=>false
 |_=>true
inductive YOp where
 |mv(d:Nat)(x:YO)|as(d:Nat)(x:YO)|pick(d:Nat)(c a b:YO)|alloc(d:Nat)(zs:List U)|box(d:Nat)(x:YO)|build(d:Nat)(zs:List U)(parts:List (Nat×Nat×YO))|CF(d:Nat)(n:Nat)(c:C)(parts:List (Nat×YO))|ld(d:Nat)(n:Option Nat)(x:YO)|st(n:Nat)(x v:YO)|chk(d:Nat)(x:YO)|bin(d:Nat)(c:Cls)(op:BinOp)(x y:YO)|un(d:Nat)(op:UnOp)(x:YO)|cvI(d:Nat)(k:IntKind)(x:YO)|MY(d:Nat)(x:YO)|Ox(d:Nat)(x:YO)|NC(d:Nat)(n:Nat)(caps:List YO)|Ry(d:Nat)(c:C)(n:YO)|sub(d:Nat)(c:C)(x:YO)(lo hi:Option YO)|Vq(d:Nat)(x:YO)(lo hi:Option YO)|fa(d:Nat)(off:Nat)(x:YO)|fld(d:Nat)(off:Nat)(n:Option Nat)(x:YO)|ia(d:Nat)(c:C)(x i:YO)|ix(d:Nat)(x i:YO)|ext(d:Nat)(x:YO)(i:Nat)|call (d:Nat) (g:GF) (fs:List Nat) (hf:fs.map (fun n=>(R[n]?).map GF.x)=(fX g.ps).map some) (args:List YO)|D2(d:Nat)(x:YO)(ms:List Md)(args:List YO)|len(d:Nat)(x:YO)|lens(d:Nat)(x:YO)|app(d:Nat)(c:C)(fl:Bool)(x y:YO)|R7(d:Nat)(c:C)(x n:YO)|cpy(d:Nat)(c:C)(x y:YO)|mm(d:Nat)(isMax:Bool)(x y:YO)|mmk(d:Nat)|UR(d:Nat)(x k:YO)|TG(x k v:YO)|US(d:Nat)(x:YO)|bad(d:Option Nat)|drop(ds:List Nat)|VZ(ns:List (CH×C))
section
variable {R} {ρ:Type}
def range(S:St)(len:Nat)(lo hi:Option YO)(K:Nat->Nat->Option ρ):Option ρ:=
 match lo,hi with
 |none,none=>K 0 len|some x,none=>match S.nat x with|some a=>gd (0<=a/\a<=(len:Int)) (K a.toNat len)|none=>none
 |none,some y=>match S.nat y with|some b=>gd (0<=b/\b<=(len:Int)) (K 0 b.toNat)|none=>none
 |some x,some y=>match S.nat x,S.nat y with|some a,some b=>gd (0<=a/\a<=b/\b<=(len:Int)) (K a.toNat b.toNat)|_,_=>none
def part{α:Type}(lo hi:Option YO)(xs:List α)(a b:Nat):List α:=
 match lo,hi with
 |none,none=>xs|some _,none=>xs.drop a|none,some _=>xs.take b|some _,some _=>(xs.drop a).take (b-a)
def AW4{α γ:Type}(s:Nat)(a:α):List (Nat×α)->(List (Nat×α)->γ)->γ
 | [],K=>K [(s,a)]|(k,b)::r,K=>match Nat.beq s k with
  |true=>K ((s,a)::r)|false=>match Nat.ble s k with|true=>K ((s,a)::(k,b)::r)|false=>AW4 s a r fun r=>K ((k,b)::r)
def HZ(S:St)(d:Nat)(sh:Sh)(cs:List AT)(K:St->Option ρ):Option ρ:=
 match mem d S.pin with
 |true=>none|false=>match get S.tm d with|none=>dW sh fun sh=>T2 cs fun cs=>DT S.nv fun v=>AW4 d ⟨sh,cs,v⟩ S.tm fun tm=>K ⟨tm,S.bx,S.pin,v+1⟩|some _=>((S.kill (E8 d)).J8 d sh (Ec (E8 d) cs)).Fp K
def mb(S:St)(e:En):Option Nat:=
 match e with
 |⟨.one,[.bp id _]⟩=>match get S.bx id with|some ls=>if (Fh (Da ls.cs) ls.cs).isSome=true then some (Da ls.cs) else none|none=>none
 |e=>if (Fh (Da e.cs) e.cs).isSome=true then some (Da e.cs) else none
def mc(ks:List PK)(S0:St)(es:List En)(k:Nat):Option Nat:=
 match es[k]? with
 |some e=>match ks[k]? with|some (.p _)=>none|_=>mb S0 e
 |none=>none
def P9(S:St)(d:Nat)(ls:List AT)(K:St->Option ρ):Option ρ:=
 match mem d S.pin with|true=>none|false=>K (((S.kill (fun l=>E8 d l||Fl d l)).J8 d .one [.bp d 0]).OM d ls)
def SB:(cs:List C)->Tu cs->List (List U)| [],_=>[]| [c],x=>[cells c x]|c::c'::cs,x=>cells c x.1::SB (c'::cs) x.2
def post(d:Nat)(g:GF)(es:List En)(S0 S:St)(r:Tu (g.rk.cs++Lb g.ps))(K:St->Option ρ):Option ρ:=
 Fg S0 S g.ps es ((SB _ r).drop g.rk.cs.length) fun S'=>
  match g.rk with
  |.ptr k _=>match mc g.ps S0 es k with|some lab=>P9 S' d (((SB _ r).take g.rk.cs.length).flatten.map (EZ lab)) K|none=>none
  |.vw k _=>match mc g.ps S0 es k with|some lab=>HZ S' d .one (((SB _ r).take g.rk.cs.length).flatten.map (EZ lab)) K|none=>none
  |.ret cs=>HZ S' d (AEk (cs.map wC)) (((SB _ r).take g.rk.cs.length).flatten.map Jr) K
def AJT(d:Nat)(g:GF)(fs:List Nat)(es:List En)(S:St)(K:St->Option ρ):Option ρ:=
 match PZ [] g.ps es with
 |true=>none|false=>match V2 S fs g.ps es with|some (S1,a)=>bd (g.d a) fun r=>post d g es S S1 r K|none=>none
def uC(es:List En):Option (List Cap):=
 match es with
 | []=>some []|⟨.one,[l]⟩::es=>match l.AX9,uC es with|some c,some cs=>some (c::cs)|_,_=>none
 |_=>none
def St.P6(S:St)(x:YO):Option (CH×List (Int×Int)):=
 match S.one x with
 |some (.al r none)=>match S.at r with|some (.ow (.mp ks))=>some (r,ks)|_=>none
 |_=>none
def ev(o:YOp R)(S:St)(K:St->Option ρ):Option ρ:=
 match o with
 |.mv d x=>match S.rd x with|some e=>HZ S d e.sh e.cs K|none=>none
 |.as d x=>match S.rd x with
  |some e=>match LP S e.cs with|some (S',cs)=>HZ S' d e.sh cs K|none=>none
  |none=>none
 |.pick d c a b=>match S.sc c,S.rd a,S.rd b with|some (.bool t),some ea,some eb=>br t (HZ S d ea.sh ea.cs K) (HZ S d eb.sh eb.cs K)|_,_,_=>none
 |.alloc d zs=>P9 S d (zs.map .t) K|.box d x=>match S.rd x with
  |some e=>match uK S x e.cs with
   |some (S1,cs)=>if H4 cs=true\/GI e.sh e.cs.length=false then none else
    P9 S1 d (Ec (fun l=>E8 d l||Fl d l) cs) K
   |none=>none
  |none=>none
 |.build d zs parts=>match MW S (zs.map .t) parts with|some ls=>HZ S d .agg ls K|none=>none
 |.CF d n c parts=>match AFC c with
  |some z=>if n*c.size<=16777216 then match (if ADl 0 n parts=true then bsL c n S parts else bsK c n S (List.replicate n z) parts) with
   |some (S',xs)=>HZ S' d .one [.ow (.sl c xs)] K|none=>none
   else none
  |none=>none
 |.ld d n x=>match S.one x with|some p=>S.load (Dp n) p fun ls=>HZ S d (shN n) ls K|none=>none
 |.st n x v=>match S.one x,S.rd v with|some p,some e=>if e.cs.length=n % 1048576/\GI e.sh (n % 1048576)=true then S.RV n p e.cs K else none|_,_=>none
 |.chk d x=>match S.one x with|some p=>if Rl p=true then HZ S d .one [p] K else none|none=>none
 |.bin d c op x y=>match S.rd x,S.rd y with
  |some ex,some ey=>S.bin (match y with|.k _=>true|_=>false) c op ex ey fun t=>HZ S d .one [.t t] K
  |_,_=>none
 |.un d op x=>match S.sc x with|some a=>unU op a fun t=>HZ S d .one [.t t] K|none=>none
 |.cvI d k x=>match S.nat x with|some n=>HZ S d .one [.t (mkInt k n)] K|none=>none
 |.MY d x=>match S.sc x with|some (.str s)=>HZ S d .one [.ow (.sl .u s)] K|_=>none
 |.Ox d x=>match S.one x with
  |some l=>match S.elems l with
   |some w=>match Rw.as .u w with|some bs=>HZ S d .one [.t (.str bs)] K|none=>none
   |none=>none
  |none=>none
 |.NC d n caps=>match S.rds caps with
  |some es=>match uC es with|some cs=>HZ S d .one [.fn n cs] K|none=>none
  |none=>none
 |.Ry d c n=>match S.nat n with
  |some n=>match AFC c with|some z=>gd (0<=n/\n<=(lim:Int)) (HZ S d .one [.ow (.sl c (List.replicate n.toNat z))] K)|none=>none
  |none=>none
 |.Vq d x lo hi=>match S.sc x with|some (.str s)=>range S s.length lo hi fun a b=>HZ S d .one [.t (.str (part lo hi s a b))] K|_=>none
 |.sub d c x lo hi=>match S.one x with
  |some l=>if S.wide c l=true then match l with
   |.al r sub=>match S.elems l with
    |some w=>match Rw.as c w with
     |some xs=>range S xs.length lo hi fun a b=>HZ S d .one [.al r (some (match sub with|none=>(a,b-a)|some (lo0,_)=>(lo0+a,b-a)))] K
     |none=>none
    |none=>none
   |.vw s c' xs=>range S xs.length lo hi fun a b=>HZ S d .one [.vw s.up c' (part lo hi xs a b)] K|.t .nil=>range S 0 lo hi fun _ _=>HZ S d .one [.t .nil] K|_=>none
   else none
  |none=>none
 |.fa d off x=>match S.one x with
  |some p=>match Mk off p with|some q=>HZ S d .one [q] K|none=>none
  |none=>none
 |.fld d off n x=>match S.rd x with|some ⟨.agg,cs⟩=>if off+Dp n<=cs.length then HZ S d (shN n) ((cs.drop off).take (Dp n)) K else none|_=>none
 |.ia d c x i=>match S.one x,S.nat i with
  |some l,some n=>if S.wide c l=true then match l with
   |.al r sub=>match S.elems l with
    |some (.of _ xs)=>bd (at? xs n) fun _=>HZ S d .one [.ep r (match sub with|none=>n|some (lo,_)=>(lo:Int)+n) 0] K
    |_=>match sub with
     |none=>match S.at r with|some (.owh _ xs _)=>bd (at? xs n) fun _=>HZ S d .one [.ep r n 0] K|_=>none
     |_=>none
   |.vw s c' xs=>bd (at? xs n) fun x=>HZ S d .one [.vp s.up (cells c' x)] K|_=>none
   else none
  |_,_=>none
 |.ix d x i=>match S.sc x,S.nat i with|some (.str s),some n=>bd (at? s n) fun x=>HZ S d .one [.t (.u8 x)] K|_,_=>none
 |.ext d x i=>match x with
  |.tmp s=>match get S.tm s with
   |some ⟨.tup ns,cs,_⟩=>match ns[i]? with
    |some n=>
     let o:=UW (ns.take i)
     if o+Dp n<=cs.length then match LP S (((R6 s 0 cs).drop o).take (Dp n)) with|some (S',ls)=>HZ S' d (shN n) ls K|none=>none
     else none
    |none=>none
   |_=>none
  |_=>none
 |.lens d x=>match S.sc x with|some (.str s)=>HZ S d .one [.t (.int .i64 s.length)] K|_=>none
 |.len d x=>match S.one x with
  |some l=>match S.elems l with|some (.of _ xs)=>HZ S d .one [.t (.int .i64 xs.length)] K|some .nl=>HZ S d .one [.t (.int .i64 0)] K|none=>none
  |none=>none
 |.app d c fl x y=>match S.one x,S.one y with
  |some lx,some ly=>match PO c fl S ly with
   |some (S1,ys)=>match Rf c S1 lx with
    |some (S2,b,n,e)=>gdo e (gd (n+ys.length<=lim) (match AVr c b ys with|some u=>HZ S2 d .one [.ow u] K|none=>none))
    |none=>none
   |none=>none
  |_,_=>none
 |.R7 d c x n=>match S.one x,S.nat n,AFC c with
  |some lx,some k,some z=>gd (0<=k/\k<=(lim:Int)) (match Rf c S lx with
   |some (S2,b,n,e)=>gdo e (gd (n+k.toNat<=lim) (match AVr c b (List.replicate k.toNat z) with|some u=>HZ S2 d .one [.ow u] K|none=>none))
   |none=>none)
  |_,_,_=>none
 |.cpy d c x y=>match S.one x,S.one y with
  |some (.al r none),some ly=>match S.at r,S.elems ly with
   |some (.ow (.sl c' xs)),some w=>match Rw.as c w,Rw.as c (.of c' xs) with
    |some ys,some xs=>if S.wide c ly=true/\Uh c=true then
     gd (xs.isEmpty=false) (HZ ((S.Bk r (.ow (.sl c (ys.take xs.length++xs.drop ys.length)))).kill (FZ r)) d .one [.t (.int .i64 (min ys.length xs.length:Nat))] K)
     else none
    |_,_=>none
   |_,_=>none
  |_,_=>none
 |.mm d isMax x y=>match S.sc x,S.sc y with|some (.int k a),some (.int k' b)=>if k'=k then HZ S d .one [.t (.int k (if isMax=true then (if b>a then b else a) else (if b<a then b else a)))] K else none|_,_=>none
 |.mmk d=>HZ S d .one [.ow (.mp [])] K|.UR d x k=>match S.P6 x,S.sc k with|some (_,ks),some (.int .i64 n)=>HZ S d .one [.t (.int .i64 (Mh ks n))] K|_,_=>none
 |.TG x k v=>match S.P6 x,S.sc k,S.sc v with|some (r,ks),some (.int .i64 n),some (.int .i64 m)=>K ((S.Bk r (.ow (.mp (Jf ks n m)))).kill (FZ r))|_,_,_=>none
 |.US d x=>match S.P6 x with|some (_,ks)=>HZ S d .one [.t (.int .i64 ks.length)] K|none=>none
 |.bad _=>none|.drop ds=>K (S.IQ ds)|.VZ ns=>K (S.RB ns)|.call d g fs _ args=>match S.rds args with|some es=>AJT d g fs es S K|none=>none
 |.D2 d x ms args=>match S.one x,S.rds args with
  |some (.fn n caps),some es=>match R[n]? with|some g=>if g.ps.map PK.md=ms then AJT d g [] (es++caps.map fun l=>⟨.one,[l.leaf]⟩) S K else none|none=>none
  |_,_=>none
def YOp.ka:YOp R->Option Nat|.mv d _=>some d|.as d _=>some d|.pick d _ _ _=>some d|.alloc d _=>some d|.box d _=>some d|.build d _ _=>some d|.CF d _ _ _=>some d|.ld d _ _=>some d|.chk d _=>some d|.bin d _ _ _ _=>some d|.un d _ _=>some d|.cvI d _ _=>some d|.MY d _=>some d|.Ox d _=>some d|.NC d _ _=>some d|.Ry d _ _=>some d|.sub d _ _ _ _=>some d|.Vq d _ _ _=>some d|.fa d _ _=>some d|.fld d _ _ _=>some d|.ia d _ _ _=>some d|.ix d _ _=>some d|.ext d _ _=>some d|.call d _ _ _ _=>some d|.D2 d _ _ _=>some d|.len d _=>some d|.lens d _=>some d|.app d _ _ _ _=>some d|.R7 d _ _ _=>some d|.cpy d _ _ _=>some d|.mm d _ _ _=>some d|.mmk d=>some d|.UR d _ _=>some d|.US d _=>some d|.TG _ _ _=>none|.bad d=>d|.st _ _ _=>none|.drop _=>none|.VZ _=>none
def YOp.simple:YOp R->Bool|.mv _ _=>true|.as _ _=>true|.pick _ _ _ _=>true|.ld _ _ _=>true|.chk _ _=>true|.bin _ _ _ _ _=>true|.un _ _ _=>true|.cvI _ _ _=>true|.MY _ _=>true|.Ox _ _=>true|.Ry _ _ _=>true|.sub _ _ _ _ _=>true|.Vq _ _ _ _=>true|.fa _ _ _=>true|.fld _ _ _ _=>true|.ia _ _ _ _=>true|.ix _ _ _=>true|.len _ _=>true|.lens _ _=>true|.mm _ _ _ _=>true|.mmk _=>true|.UR _ _ _=>true|.US _ _=>true|.call _ g _ _ _=>!(g.ps.any PK.writes)|_=>false
def MQ(o:YOp R)(S:St)(K:St->Option ρ):Option ρ:=match o.ka with|some d=>HZ S d .one [.und] K|none=>K S
def reE(s:Nat)(e:Ent):List (Nat×Ent)->List (Nat×Ent)
 | []=>[]|(k,x)::r=>match Nat.beq k s with|true=>(k,e)::r|false=>(k,x)::reE s e r
def St.lit(S:St)(s:Nat)(b:Bool):St:=⟨reE s ⟨.one,[.t (.bool b)],S.nv⟩ S.tm,S.bx,S.pin,S.nv+1⟩
def nI(w:Bool)(o:YOp R)(S:St)(f:Option ρ)(K:St->Option ρ):Option ρ:=match w with|true=>f|false=>MQ o S K
def evg(g:Option (Nat×Bool))(o:YOp R)(S:St)(K:St->Option ρ):Option ρ:=
 match g with
 |none=>ev o S K|some (s,w)=>match get S.tm s with
  |some ⟨.one,[.t (.bool b)],_⟩=>
   br b (nI w o (S.lit s true) (ev o (S.lit s true) K) K) (nI (!w) o (S.lit s false) (ev o (S.lit s false) K) K)
  |some ⟨.one,[.und],_⟩=>MQ o S K|_=>none
def evs:List (Option (Nat×Bool)×YOp R)->St->(St->Option ρ)->Option ρ
 | [],S,K=>K S|(g,o)::r,S,K=>match o.simple with|true=>evg g o S fun S'=>evs r S' K|false=>evg g o S fun S'=>S'.Fp fun S'=>evs r S' K
def YOp.wr:YOp R->Option YO|.app _ _ _ x _=>some x|.R7 _ _ x _=>some x|.cpy _ _ x _=>some x|.TG x _ _=>some x|_=>none
def J2(l:AT):List PK->List En->Bool|k::ks,e::es=>(!PK.writes k||e.cs.all fun l'=>!RO l' l)&&J2 l ks es|_,_=>true
def St.Nw(S:St):AT->Bool
 |.bp id _=>(get S.bx id).isSome|.ep _ _ _=>true|.vp _ cs=>!cs.isEmpty|.al r _=>match S.at r with|some (.ow x)=>!Z6 x|_=>false
 |.vw (.own _ _) _ _=>true|.t .nil=>true|_=>false
def Uv(o:YOp R)(S:St)(l:AT):Bool:=
 S.Nw l&&match o with
  |.st _ x _=>match S.one x with|some (.bp id _)=>!mem id (names l)|some (.ep r _ _)=>!isR l.B1 r|_=>false
  |.call _ g _ _ args=>match S.rds args with|some es=>J2 l g.ps es|none=>false
  |.D2 _ x ms args=>match S.one x,S.rds args with
   |some (.fn n caps),some es=>match R[n]? with|some g=>if g.ps.map PK.md=ms then J2 l g.ps (es++caps.map fun l=>⟨.one,[l.leaf]⟩) else false|none=>false
   |_,_=>false
  |o=>match o.wr with
   |some y=>match S.one y with
    |some lt=>l.B1.isNone||!(match l.B1 with|some r=>isR lt.B1 r|none=>lt.B1.isNone)
    |none=>false
   |none=>true
def Js(o:YOp R)(S:St):List Nat->Bool
 | []=>true|s::ss=>(match S.one (.tmp s) with|some l=>Uv o S l|none=>false)&&Js o S ss
end
abbrev ifB{γ:Type}(b:Bool)(x:Option γ):Option γ:=match b with|true=>x|false=>none
theorem AYO{γ:Type}{b:Bool}{x:Option γ}:ifB b x=if b=true then x else none:=by cases b<;>rfl
def bm{α:Type}(k:Nat):List (Nat×α)->Bool
 | []=>false|(j,_)::r=>match Nat.beq j k with|true=>true|false=>bm k r
def m8{α:Type}:List (Nat×α)->Bool| []=>true|(k,_)::r=>(!bm k r)&&m8 r
def ANT:List (Option Nat)->List (Option Nat)->Bool| [],[]=>true|none::r,none::r'=>ANT r r'|some a::r,some b::r'=>Nat.beq a b&&ANT r r'|_,_=>false
def AYK:Sh->Sh->Bool|.one,.one=>true|.agg,.agg=>true|.tup a,.tup b=>ANT a b|.ptr a,.ptr b=>Nat.beq a b|.vw a,.vw b=>Nat.beq a b|_,_=>false
def ALp:Option (Nat×Nat)->Option (Nat×Nat)->Bool|none,none=>true|some (a,b),some (a',b')=>Nat.beq a a'&&Nat.beq b b'|_,_=>false
def ALo:Src->Src->Bool|.old a,.old b=>Nat.beq a b|.own r s,.own r' s'=>CH.is r r'&&ALp s s'|_,_=>false
def AWU:List (Nat×Nat)->List (Nat×Nat)->Bool| [],[]=>true|(a,b)::r,(a',b')::r'=>Nat.beq a a'&&Nat.beq b b'&&AWU r r'|_,_=>false
section
variable{ρ:Type}
def agU:U->U->Option ρ->Option ρ|.top,.top,X=>X|.int k n,.int k' n',X=>if k'=k then eqv n n' X else none|.u8 a,.u8 b,X=>eqv a b X|.bool a,.bool b,X=>eqv a b X|.str a,.str b,X=>eqv a b X|.nil,.nil,X=>X|.np,.np,X=>X|.mp a,.mp b,X=>eqv a b X|.sl c xs,.sl c' ys,X=>if h:c'=c then eqv xs (h▸ys) X else none|_,_,_=>none
def AXw:List U->List U->Option ρ->Option ρ| [],[],X=>X|a::r,b::r',X=>agU a b (AXw r r' X)|_,_,_=>none
def AZQ:AT->AT->Option ρ->Option ρ|.t x,.t y,X=>agU x y X|.und,.und,X=>X|.ow x,.ow y,X=>agU x y X|.owh c xs hs,.owh c' ys hs',X=>ifB (AWU hs hs') (if h:c'=c then eqv xs (h▸ys) X else none)|.al r s,.al r' s',X=>ifB (CH.is r r'&&ALp s s') X|.ep r i j,.ep r' i' j',X=>ifB (CH.is r r'&&Nat.beq j j') (eqv i i' X)|.vw s c xs,.vw s' c' ys,X=>ifB (ALo s s') (if h:c'=c then eqv xs (h▸ys) X else none)|.vp s cs,.vp s' cs',X=>ifB (ALo s s') (AXw cs cs' X)|.bp a o,.bp a' o',X=>ifB (Nat.beq a a'&&Nat.beq o o') X|_,_,_=>none
def AVo:List AT->List AT->Option ρ->Option ρ| [],[],X=>X|a::r,b::r',X=>AZQ a b (AVo r r' X)|_,_,_=>none
def agE(v:Nat):List (Nat×Ent)->List (Nat×Ent)->Option ρ->Option ρ
 | [],[],X=>X|(k,e)::r,(k',e')::r',X=>match Nat.beq k k' with
  |true=>match (Nat.blt e.ver v&&Nat.blt e'.ver v) with|true=>agE v r r' X|false=>ifB (AYK e.sh e'.sh) (AVo e.cs e'.cs (agE v r r' X))
  |false=>none
 |_,_,_=>none
def agB(v:Nat):List (Nat×Bx)->List (Nat×Bx)->Option ρ->Option ρ
 | [],[],X=>X|(k,e)::r,(k',e')::r',X=>match Nat.beq k k' with
  |true=>match (Nat.blt e.ver v&&Nat.blt e'.ver v) with|true=>agB v r r' X|false=>AVo e.cs e'.cs (agB v r r' X)
  |false=>none
 |_,_,_=>none
def agS(v:Nat)(A B:St)(X:Option ρ):Option ρ:=ifB (m8 A.tm&&m8 B.tm&&m8 A.bx&&m8 B.bx) (agE v A.tm B.tm (agB v A.bx B.bx X))
end
inductive Bw where
 |nil|op(i:Nat)(g:Option (Nat×Bool))(sf:List Nat)(o:YOp R)(rest:Bw)|dr(ds:List Nat)(rest:Bw)|nl(ns:List (CH×C))(rest:Bw)|both(n:Nat)(a b:Bw)
section
variable {R} {ρ:Type}
def evr:Bw R->St->(St->Option ρ)->Option ρ
 |.nil,S,K=>K S|.op _ g sf p rest,S,K=>match g with
  |none=>ifB (Js p S sf) (ev p S fun S'=>S'.Fp fun S'=>evr rest S' K)|some (s,w)=>match get S.tm s with
   |some ⟨.one,[.t (.bool b)],_⟩=>
    br b (nI w p (S.lit s true) (ifB (Js p (S.lit s true) sf) (ev p (S.lit s true) fun S'=>S'.Fp fun S'=>evr rest S' K)) fun S'=>S'.Fp fun S'=>evr rest S' K)
     (nI (!w) p (S.lit s false) (ifB (Js p (S.lit s false) sf) (ev p (S.lit s false) fun S'=>S'.Fp fun S'=>evr rest S' K)) fun S'=>S'.Fp fun S'=>evr rest S' K)
   |some ⟨.one,[.und],_⟩=>MQ p S fun S'=>S'.Fp fun S'=>evr rest S' K|_=>none
 |.dr ds rest,S,K=>evr rest (S.IQ ds) K|.nl ns rest,S,K=>evr rest (S.RB ns) K|.both n a b,S,K=>match n with|0=>evr a S fun A=>evr b S fun B=>agS S.nv A B (K A)|_+1=>evr a S fun A=>alt (fun X=>evr b S fun B=>agS S.nv A B X) (K A)
end
inductive AL where
 |val(c:C)(s:Option Src)|num(k:IntKind)|al(r:CH)
def AL.D:AL->Type|.val c _=>c.D|.num _=>Int|.al _=>Unit
def AL.w:AL->Nat|.val c _=>c.size|.num _=>1|.al _=>1
def TA:List AL->Type| []=>Unit| [a]=>a.D|a::a'::as=>a.D×TA (a'::as)
def AS6(s:Option Src)(x:U):AT:=match s with|none=>Jr x|some q=>Kr q x
def AL.leaf:(a:AL)->a.D->List AT|.val c s,x=>(cells c x).map (AS6 s)|.num k,z=>[.t (.int k z)]|.al r,_=>[.al r none]
def AS7(s:Option Src):AT->Option U
 |.t (.sl _ _)=>none|.t .nil=>none|.t (.mp _)=>none|.t x=>some x|.ow (.sl c xs)=>match s with|none=>some (.sl c xs)|some _=>none
 |.ow (.mp ks)=>match s with|none=>some (.mp ks)|some _=>none
 |.vw q' c xs=>match s with|none=>none|some q=>if q'=q then some (.sl c xs) else none
 |_=>none
def yC(s:Option Src):List AT->Option (List U)
 | []=>some []|l::ls=>match AS7 s l,yC s ls with|some x,some xs=>some (x::xs)|_,_=>none
def AL.un:(a:AL)->List AT->Option a.D
 |.val c s,ls=>match yC s ls with|some us=>ofC c us|none=>none
 |.num k,ls=>match ls with | [.t (.int k' z)]=>if k'=k then some z else none|_=>none
 |.al r,ls=>match ls with | [.al r' none]=>if r'=r then some () else none|_=>none
def TD:(as:List AL)->TA as->List AT| [],_=>[]| [a],x=>a.leaf x|a::a'::as,x=>a.leaf x.1++TD (a'::as) x.2
def AXQ:(as:List AL)->List AT->Option (TA as)
 | [],ls=>match ls with | []=>some ()|_=>none
 | [a],ls=>a.un ls|a::a'::as,ls=>match a.un (ls.take a.w),AXQ (a'::as) (ls.drop a.w) with|some x,some y=>some (x,y)|_,_=>none
abbrev Cut:=List (Bool×Nat×Sh×List AL)
def wid:List AL->Nat| []=>0|a::as=>a.w+wid as
def Cut.as(c:Cut):List AL:=(c.map fun v=>v.2.2.2).flatten
def seg:Cut->List AT->List (Bool×Nat×Sh×List AT)| [],_=>[]|(b,d,sh,as)::vs,ls=>(b,d,sh,ls.take (wid as))::seg vs (ls.drop (wid as))
def look(b:Bool)(k:Nat):List (Bool×Nat×Sh×List AT)->Option (Sh×List AT)
 | []=>none|(b',d,sh,ls)::r=>match (b'==b&&Nat.beq d k) with|true=>some (sh,ls)|false=>look b k r
def na(q:List (Bool×Nat×Sh×List AT))(a:List (Nat×Ent))(v:Nat):List (Nat×Ent)->List (Nat×Ent)
 | []=>[]|(k,e)::r=>(k,match look false k q with|some (sh,ls)=>⟨sh,ls,v⟩|none=>match get a k with|some e'=>e'|none=>e)::na q a v r
def nZ(q:List (Bool×Nat×Sh×List AT))(a:List (Nat×Bx))(v:Nat):List (Nat×Bx)->List (Nat×Bx)
 | []=>[]|(k,e)::r=>(k,match look true k q with|some (_,ls)=>⟨ls,v⟩|none=>match get a k with|some e'=>e'|none=>e)::nZ q a v r
def Cut.st(c:Cut)(S S':St)(x:TA c.as):St:=⟨na (seg c (TD c.as x)) S.tm S.nv S'.tm,nZ (seg c (TD c.as x)) S.bx S.nv S'.bx,S.pin,S.nv+1⟩
def OJ(b:Bool)(k:Nat):Cut->Bool
 | []=>false|(b',d,_)::r=>match (b'==b&&Nat.beq d k) with|true=>true|false=>OJ b k r
def AMk(c:Cut)(a:List (Nat×Ent)):List (Nat×Ent)->Bool
 | []=>true|(k,e)::r=>(match OJ false k c with|true=>true|false=>match get a k with|some e'=>Nat.beq e.ver e'.ver|none=>false)&&(!bm k r)&&AMk c a r
def AMj(c:Cut)(a:List (Nat×Bx)):List (Nat×Bx)->Bool
 | []=>true|(k,e)::r=>(match OJ true k c with|true=>true|false=>match get a k with|some e'=>Nat.beq e.ver e'.ver|none=>false)&&(!bm k r)&&AMj c a r
def OC{α:Type}:List (Nat×α)->List (Nat×α)->Bool| [],[]=>true|(k,_)::r,(k',_)::r'=>Nat.beq k k'&&OC r r'|_,_=>false
def Qr(S:St):Cut->Option (List AT)
 | []=>some []|(false,d,sh,as)::vs=>match get S.tm d,Qr S vs with|some e,some ls=>if APO e.sh sh=true/\e.cs.length=wid as then some (e.cs++ls) else none|_,_=>none
 |(true,d,_,as)::vs=>match get S.bx d,Qr S vs with|some e,some ls=>if e.cs.length=wid as then some (e.cs++ls) else none|_,_=>none
def wfE(v:Nat):List (Nat×Ent)->Bool| []=>true|(_,e)::r=>Nat.blt e.ver v&&wfE v r
def wfB(v:Nat):List (Nat×Bx)->Bool| []=>true|(_,e)::r=>Nat.blt e.ver v&&wfB v r
def Cut.fit(c:Cut)(S S':St):Option (TA c.as):=
 if wfE S.nv S.tm=true/\wfB S.nv S.bx=true/\AMk c S.tm S'.tm=true/\AMj c S.bx S'.bx=true
 then match Qr S' c with|some ls=>AXQ c.as ls|none=>none
 else none
inductive Gv where
 |skip|region(ops:List (Option (Nat×Bool)×YOp R))(FY:List Nat)|VE(r:Bw R)(FY:List Nat)|seq(a b:Gv)|join(c:Cut)(a b:Gv)|cond(c:Nat)(kt ke:List Nat)(t e:Gv)|block(id:Nat)(b:Gv)|loop(c:Cut)(b:Gv)|exit(id:Nat)|ret|scope(b:Gv)|or(a b:Gv)|dead|AW0(c:Cut)(b:Gv)
end
section
variable{R:List GF}{ρ:Type}
def HY:Gv R->St->(Ex->St->Option ρ)->Option ρ
 |.skip,S,K=>K .n S|.region ops FY,S,K=>evs ops S fun S'=>(S'.uP FY).Fp fun S'=>K .n S'|.VE r FY,S,K=>evr r S fun S'=>(S'.uP FY).Fp fun S'=>K .n S'|.seq a b,S,K=>HY a S fun e S'=>match e with|Ex.n=>HY b S' K|.x i=>K (.x i) S'|.r=>K .r S'
 |.join c a b,S,K=>HY a S fun e S'=>match e with
  |.n=>match c.fit S S' with|some x=>jn (fun x=>(c.st S S' x).Fp fun S=>HY b S K) x|none=>none
  |.x i=>K (.x i) S'|.r=>K .r S'
 |.cond c kt ke t e,S,K=>match S.sc (.tmp c) with|some (.bool b)=>br b ((S.uP kt).Fp fun S=>HY t S K) ((S.uP ke).Fp fun S=>HY e S K)|_=>none
 |.block id b,S,K=>HY b S fun e S'=>match e with|.n=>K .n S'|.x i=>if i=id then K .n S' else K (.x i) S'|.r=>K .r S'
 |.loop c b,S,K=>match c.fit S S with
  |some x=>BD (fun L x=>(c.st S S x).Fp fun S1=>HY b S1 fun e S'=>match e with
   |.n=>if OC S.tm S'.tm=true/\OC S.bx S'.bx=true then (match c.fit S S' with|some y=>L y|none=>none) else none
   |.x i=>K (.x i) S'|.r=>K .r S') big x
  |none=>none
 |.exit id,S,K=>K (.x id) S|.ret,S,K=>K .r S|.scope b,S,K=>HY b S K|.or a b,S,K=>orX (HY a S K) (HY b S K)|.dead,_,_=>none|.AW0 c b,S,K=>HY b S fun e S0=>match e with
  |.n=>match c.fit S0 S0 with
   |some x=>BD (fun L x=>(c.st S0 S0 x).Fp fun S1=>HY b S1 fun e S'=>match e with
    |.n=>if OC S0.tm S'.tm=true/\OC S0.bx S'.bx=true then (match c.fit S0 S' with|some y=>L y|none=>none) else none
    |.x i=>K (.x i) S'|.r=>K .r S') big x
   |none=>none
  |.x i=>K (.x i) S0|.r=>K .r S0
def Ow(i:Nat):(l:List (Bool×C))->tt l->List Cap
 | [],_=>[]|(false,c)::r,x=>(match cells c x.1 with | [.sl c' xs]=>.vw i c' xs | [u]=>.t u|_=>.t .top)::Ow i r x.2
 |(true,c)::r,x=>.vp i (cells c x.1)::Ow i r x.2
def initK:Nat->List Nat->(ks:List PK)->A ks->St->St
 |_,_,[],_,S=>S|i,fs,.v c::ks,a,S=>initK (i+1) fs ks a.2 (S.J8 i (shC c) ((cells c a.1).map (EZ i)))|i,fs,.p c::ks,a,S=>initK (i+1) fs ks a.2 (S.J8 i .one [.vp (.old i) (cells c a.1)])|i,fs,.b c::ks,a,S=>initK (i+1) fs ks a.2 (let S1:=(S.J8 i .one [.bp i 0]).OM i ((cells c a.1).map (EZ i));⟨S1.tm,S1.bx,i::S1.pin,S1.nv⟩)
 |i,fs,.o c::ks,a,S=>initK (i+1) fs ks a.2 (S.J8 i (shC c) ((cells c a.1).map Jr))|i,fs,.m c::ks,a,S=>initK (i+1) fs ks a.2 (let S1:=S.J8 i (shC c) ((cells c a.1).map Jr);⟨S1.tm,S1.bx,i::S1.pin,S1.nv⟩)
 |i,fs,.f _ l::ks,a,S=>initK (i+1) fs.tail ks a.2 (S.J8 i .one [.fn (fs.headD 0) (Ow i l a.1)])
def MP{ρ:Type}:List Hu->St->(List (Option Nat)->List AT->Option ρ)->Option ρ
 | [],_,K=>K [] []|.tmp t::rs,S,K=>match S.rd (.tmp t) with
  |some e=>if GI e.sh e.cs.length=true then MP rs S fun ns ls=>K ((match e.sh with|.one=>none|_=>some e.cs.length)::ns) (e.cs++ls) else none
  |none=>none
 |.cell t n::rs,S,K=>match S.one (.tmp t) with|some (.bp id o)=>S.load (Dp n) (.bp id o) fun ls'=>MP rs S fun ns ls=>K (n::ns) (ls'++ls)|_=>none
 |.bx _::_,_,_=>none|.vw _ _::_,_,_=>none|.un _ _::_,_,_=>none
def N5:List AT->Bool
 | []=>true|l::ls=>(match l with|.t x=>!Rm x|.vw (.old _) _ _=>true|_=>false)&&N5 ls
def cU(rk:RK)(rs:List Hu)(S:St)(K:St->List U->Option ρ):Option ρ:=
 match rk,rs with
 |.ptr k _,[.bx t]=>match S.one (.tmp t) with
  |some (.bp id 0)=>match get S.bx id with
   |some ls=>if mem id S.pin=true then none else if Da ls.cs=k then match Fh k ls.cs with|some us=>K S us|none=>none else none
   |none=>none
  |_=>none
 |.vw k _,[.vw t k']=>if k'=k then match S.one (.tmp t) with
  |some (.vw (.old k'') c xs)=>if k''=k then K S [.sl c xs] else none|some (.al r sub)=>match S.at r with|some (.ow x)=>K (S.out r) [AIv sub x]|_=>none
  |_=>none
  else none
 |.ret (.un n::c::cs),.un t n'::r::rs=>if n'=n then match S.one (.tmp t) with
  |some (.bp id o)=>S.load n (.bp id o) fun ls'=>if N5 ls'=true then MP (r::rs) S fun ns ls=>if ns=(c::cs).map wC then match Dm S ls with
   |some (S',us)=>K S' (List.replicate n .un++us)|none=>none
   else none
   else none
  |_=>none
  else none
 |.ret cs,rs=>MP rs S fun ns ls=>if ns=cs.map wC then match Dm S ls with
  |some (S',us)=>K S' us|none=>none
  else none
 |_,_=>none
def owT:AT->Option U|.ow x=>some x|.t x=>if Rm x=true then none else some x|_=>none
def cS:List AT->Option (List U)
 | []=>some []|l::ls=>match owT l,cS ls with|some x,some xs=>some (x::xs)|_,_=>none
def FL:Nat->List PK->St->Option (List U)
 |_,[],_=>some []|i,.b c::ks,S=>match get S.bx i,FL (i+1) ks S with
  |some ls,some os=>if mem i S.pin=true/\ls.cs.length=c.size then match Fh i ls.cs with|some us=>some (us++os)|none=>none else none
  |_,_=>none
 |i,.m c::ks,S=>match get S.tm i,FL (i+1) ks S with
  |some e,some os=>if mem i S.pin=true/\GI e.sh e.cs.length=true/\e.cs.length=c.size then match cS e.cs with|some us=>some (us++os)|none=>none else none
  |_,_=>none
 |i,_::ks,S=>FL (i+1) ks S
def Uw:List C->Nat| []=>0|c::cs=>c.size+Uw cs
def fin(ks:List PK)(rk:RK)(rs:List Hu)(S:St):Option (Tu (rk.cs++Lb ks)):=
 cU rk rs S fun S' us=>match FL 0 ks S' with|some os=>if us.length=Uw rk.cs then ofT (rk.cs++Lb ks) (us++os) else none|none=>none
end
structure YF where
 R:List GF
 ps:List PK
 fs:List Nat
 rk:RK
 rs:List Hu
 body:Gv R
def YF.run(f:YF)(a:A f.ps):Option (Tu (f.rk.cs++Lb f.ps)):=
 (initK 0 f.fs f.ps a ⟨[],[],[],0⟩).Fp fun S=>HY f.body S fun e S=>match e with|.x _=>none|.n=>fin f.ps f.rk f.rs S|.r=>fin f.ps f.rk f.rs S
end Y
end Lv
namespace Lv
open Go (IntKind BinOp UnOp)
theorem FV:∀(c:C) (x:c.D),enc c x=(cells c x).map U.fg
 |.i,x=>rfl|.u,x=>rfl|.b,x=>rfl|.s,x=>rfl|.m,x=>rfl|.ki _,x=>rfl|.z,x=>rfl|.l c,xs=>rfl|.un n,x=>by simp only[enc,cells,List.map_replicate];rfl|.st n,x=>by
  match n,x with
  |0,x=>rfl|1,x=>rfl|2,x=>rfl|3,x=>rfl|4,x=>rfl|5,x=>rfl|6,x=>rfl|7,x=>rfl|8,x=>rfl|9,x=>rfl|10,x=>rfl|11,x=>rfl|12,x=>rfl|13,x=>rfl|14,x=>rfl|15,x=>rfl|16,x=>rfl|17,x=>rfl|_+18,x=>rfl
theorem AVZ{u:U}{n:Int}(h:toI u=some n):u=.int .i64 n:=by
 cases u<;>simp[toI]at h
 grind
theorem AZG{u:U}{n:UInt8}(h:toU u=some n):u=.u8 n:=by cases u<;>simp[toU]at h;rw[h]
theorem AMs{u:U}{n:Bool}(h:AXO u=some n):u=.bool n:=by cases u<;>simp[AXO]at h;rw[h]
theorem AVb{u:U}{n:List UInt8}(h:toS u=some n):u=.str n:=by cases u<;>simp[toS]at h;rw[h]
theorem AZF{k:IntKind}{u:U}{n:Int}(h:toN k u=some n):u=.int k n:=by
 cases u<;>simp[toN]at h
 grind
theorem AZH{u:U}{n:Unit}(h:toZ u=some n):u=.nil:=by cases u<;>simp[toZ]at h;rfl
theorem AZE{u:U}{n:List (Int×Int)}(h:toM u=some n):u=.mp n:=by cases u<;>simp[toM]at h;rw[h]
theorem AVa{c:C}{u:U}{n:List c.D}(h:toL c u=some n):u=.sl c n:=by
 cases u<;>simp[toL]at h
 grind
theorem bind_eq{α β:Type}{o:Option α}{f:α->Option β}{r:β}(h:o.bind f=some r):∃x,o=some x/\f x=some r:=ob h
theorem D3{α:Type}{us:List U}{K:Int->List U->Option α}{r:α}(h:gI us K=some r):∃a c,us=.int .i64 a::c/\K a c=some r:=by
 cases us with
 |nil=>cases h
 |cons u us=>obtain⟨a,e,h⟩:=bind_eq h;obtain rfl:=AVZ e;exact⟨a,us,rfl,h⟩
theorem bS{α:Type}{us:List U}{K:List UInt8->List U->Option α}{r:α}(h:gS us K=some r):∃a c,us=.str a::c/\K a c=some r:=by
 cases us with
 |nil=>cases h
 |cons u us=>obtain⟨a,e,h⟩:=bind_eq h;obtain rfl:=AVb e;exact⟨a,us,rfl,h⟩
theorem AYN{α:Type}{us:List U}{K:Bool->List U->Option α}{r:α}(h:gBo us K=some r):∃a c,us=.bool a::c/\K a c=some r:=by
 cases us with
 |nil=>cases h
 |cons u us=>obtain⟨a,e,h⟩:=bind_eq h;obtain rfl:=AMs e;exact⟨a,us,rfl,h⟩
theorem Jp{α:Type}{c:C}{us:List U}{K:List c.D->List U->Option α}{r:α}(h:gL c us K=some r):∃a e,us=.sl c a::e/\K a e=some r:=by
 cases us with
 |nil=>cases h
 |cons u us=>obtain⟨a,j,g⟩:=bind_eq h;obtain rfl:=AVa j;exact⟨a,us,rfl,g⟩
theorem LK{α:Type}{us:List U}{a r:α}(h:gE us a=some r):us=[]/\a=r:=by
 cases us with
 |nil=>exact⟨rfl,Option.some.inj h⟩|cons u us=>cases h
theorem ATN{us:List U}{x:B3}(h:ATM us=some x):AXa x=us:=by
 grind[ATM,D3,LK]
theorem AIC{us:List U}{x:Aa}(h:yP us=some x):AJM x=us:=by
 unfold yP at h;obtain⟨a0,g,rfl,a⟩:=Jp h;obtain⟨c,j,rfl,e⟩:=D3 a
 grind[D3,LK]
theorem AIA{us:List U}{x:AU}(h:yN us=some x):AJK x=us:=by
 unfold yN at h;obtain⟨a0,q,rfl,a⟩:=D3 h;obtain⟨e,y,rfl,c⟩:=D3 a;obtain⟨g,B,rfl,j⟩:=D3 c
 grind[D3,LK]
theorem AD6{us:List U}{x:BI}(h:nC us=some x):AAJ x=us:=by
 grind[nC,D3,LK]
theorem AH7{us:List U}{x:Au}(h:yK us=some x):AJH x=us:=by
 grind[yK,D3,LK]
theorem ATL{us:List U}{x:BY}(h:ATK us=some x):AXZ x=us:=by
 grind[ATK,D3,LK]
theorem AIE{us:List U}{x:Aw}(h:yR us=some x):AJO x=us:=by
 grind[yR,Jp,LK]
theorem AH6{us:List U}{x:Ae}(h:yJ us=some x):AJG x=us:=by
 unfold yJ at h
 grind[D3,Jp,LK]
theorem AH9{us:List U}{x:AE}(h:yM us=some x):AJJ x=us:=by
 unfold yM at h;obtain⟨a0,L,rfl,a⟩:=Jp h;obtain⟨B,O,rfl,c⟩:=D3 a;obtain⟨E,Q,rfl,e⟩:=D3 c;obtain⟨a3,S,rfl,g⟩:=D3 e;obtain⟨a4,X,rfl,j⟩:=D3 g;obtain⟨G,Y,rfl,q⟩:=D3 j;obtain⟨H,Z,rfl,y⟩:=D3 q;obtain⟨I,u7,rfl,J⟩:=D3 y
 grind[D3,Jp,LK]
theorem ANq{us:List U}{x:Bp}(h:AH5 us=some x):AQE x=us:=by
 grind[AH5,bS,D3,LK]
theorem AID{us:List U}{x:BZ}(h:yQ us=some x):AJN x=us:=by
 grind[yQ,bS,D3,LK]
theorem AD5{us:List U}{x:Ap}(h:nB us=some x):AAI x=us:=by
 unfold nB at h;obtain⟨a0,u0,rfl,I⟩:=Jp h;obtain⟨a1,u1,rfl,J⟩:=D3 I;obtain⟨a2,u2,rfl,O⟩:=D3 J;obtain⟨a3,u3,rfl,Q⟩:=D3 O;obtain⟨a4,u4,rfl,S⟩:=D3 Q;obtain⟨a5,u5,rfl,X⟩:=D3 S;obtain⟨a6,u6,rfl,Y⟩:=D3 X;obtain⟨a7,u7,rfl,Z⟩:=D3 Y;obtain⟨a8,u8,rfl,h8⟩:=D3 Z;obtain⟨a9,u9,rfl,h9⟩:=D3 h8;obtain⟨q,u10,rfl,a⟩:=D3 h9;obtain⟨y,u11,rfl,c⟩:=Jp a;obtain⟨B,u12,rfl,e⟩:=Jp c;obtain⟨E,u13,rfl,g⟩:=Jp e;obtain⟨G,u14,rfl,j⟩:=Jp g;obtain⟨H,u15,rfl,L⟩:=bS j
 grind[D3,bS,Jp,LK]
theorem AIB{us:List U}{x:B6}(h:yO us=some x):AJL x=us:=by
 grind[yO,D3,Jp,LK]
theorem AIF{us:List U}{x:Cf}(h:yS us=some x):AJP x=us:=by
 unfold yS at h;obtain⟨a0,u0,rfl,Z⟩:=Jp h;obtain⟨a1,u1,rfl,h1⟩:=D3 Z;obtain⟨a2,u2,rfl,h2⟩:=D3 h1;obtain⟨a3,u3,rfl,h3⟩:=D3 h2;obtain⟨a4,u4,rfl,h4⟩:=D3 h3;obtain⟨a5,u5,rfl,h5⟩:=D3 h4;obtain⟨a6,u6,rfl,h6⟩:=D3 h5;obtain⟨a7,u7,rfl,h7⟩:=D3 h6;obtain⟨a8,u8,rfl,h8⟩:=D3 h7;obtain⟨a9,u9,rfl,h9⟩:=D3 h8;obtain⟨G,u10,rfl,a⟩:=D3 h9;obtain⟨H,u11,rfl,c⟩:=Jp a;obtain⟨I,u12,rfl,e⟩:=Jp c;obtain⟨J,u13,rfl,g⟩:=Jp e;obtain⟨L,u14,rfl,j⟩:=Jp g;obtain⟨O,u15,rfl,q⟩:=bS j;obtain⟨Q,u16,rfl,y⟩:=D3 q;obtain⟨S,u17,rfl,B⟩:=bS y;obtain⟨X,u18,rfl,E⟩:=D3 B;obtain⟨Y,u19,rfl,h19⟩:=bS E
 grind[D3,Jp,LK]
theorem ATJ{us:List U}{x:UQ}(h:ATI us=some x):AXY x=us:=by
 unfold ATI at h;obtain⟨a0,g,rfl,a⟩:=D3 h;obtain⟨c,j,rfl,e⟩:=D3 a
 grind[D3,Jp,LK]
theorem AH8{us:List U}{x:Br}(h:yL us=some x):AJI x=us:=by
 grind[yL,D3,bS,LK]
theorem AIH{us:List U}{x:Db}(h:yT us=some x):AJQ x=us:=by
 grind[yT,Jp,D3,AYN,LK]
theorem AII{us:List U}{x:Ax}(h:yU us=some x):AJR x=us:=by
 grind[yU,Jp,D3,LK]
theorem ANr:∀{n:Nat} {us:List U} {x:tD n},ofS n us=some x->AFN n x=us
 |0,us,x,h=>ATN h|1,us,x,h=>AIC h|2,us,x,h=>AIA h|3,us,x,h=>AD6 h|4,us,x,h=>AH7 h|5,us,x,h=>ATL h|6,us,x,h=>AIE h|7,us,x,h=>AH6 h|8,us,x,h=>AH9 h|9,us,x,h=>ANq h|10,us,x,h=>AID h|11,us,x,h=>AD5 h|12,us,x,h=>AIB h|13,us,x,h=>AIF h|14,us,x,h=>ATJ h|15,us,x,h=>AH8 h|16,us,x,h=>AIH h|17,us,x,h=>AII h|_+18,us,x,h=>by cases h
theorem TJ{α:Type}{us:List U}{f:U->Option α}{r:α}(h:of1 us f=some r):∃u,us=[u]/\f u=some r:=by
 match us,h with
 | [u],h=>exact⟨u,rfl,h⟩
theorem AE2:∀{n:Nat} {us:List U} {x:Unit},M4 n us=some x->us=List.replicate n .un|0,[],_,_=>rfl|n+1,.un::us,x,h=>by rw[List.replicate_succ,<-AE2 (n:=n) (x:=x) (by simpa only[M4] using h)]|0,_::_,_,h=>by simp[M4]at h|n+1,[],_,h=>by simp[M4]at h|n+1,.int _ _::_,_,h=>by simp[M4]at h|n+1,.top::_,_,h=>by simp[M4]at h|n+1,.u8 _::_,_,h=>by simp[M4]at h|n+1,.bool _::_,_,h=>by simp[M4]at h|n+1,.str _::_,_,h=>by simp[M4]at h|n+1,.nil::_,_,h=>by simp[M4]at h|n+1,.np::_,_,h=>by simp[M4]at h|n+1,.sl _ _::_,_,h=>by simp[M4]at h|n+1,.mp _::_,_,h=>by simp[M4]at h
theorem aJ:∀{c:C} {us:List U} {x:c.D},ofC c us=some x->cells c x=us
 |.i,us,x,h=>by obtain⟨u,rfl,h⟩:=TJ h;obtain rfl:=AVZ h;rfl
 |.u,us,x,h=>by obtain⟨u,rfl,h⟩:=TJ h;obtain rfl:=AZG h;rfl
 |.b,us,x,h=>by obtain⟨u,rfl,h⟩:=TJ h;obtain rfl:=AMs h;rfl
 |.s,us,x,h=>by obtain⟨u,rfl,h⟩:=TJ h;obtain rfl:=AVb h;rfl
 |.ki k,us,x,h=>by obtain⟨u,rfl,h⟩:=TJ h;obtain rfl:=AZF h;rfl
 |.m,us,x,h=>by obtain⟨u,rfl,h⟩:=TJ h;obtain rfl:=AZE h;rfl
 |.z,us,x,h=>by obtain⟨u,rfl,h⟩:=TJ h;obtain rfl:=AZH h;rfl
 |.l c,us,x,h=>by obtain⟨u,rfl,h⟩:=TJ h;obtain rfl:=AVa h;rfl
 |.st n,us,x,h=>ANr h|.un n,us,x,h=>(AE2 (show M4 n us=some x from h)).symm
theorem Ir{c:C}{us:List U}{x:c.D}(h:ofC c us=some x):enc c x=us.map U.fg:=by rw[FV,aJ h]
theorem Yx:∀(c:C) (x:c.D),(cells c x).length=c.size
 |.i,x=>rfl|.u,x=>rfl|.b,x=>rfl|.s,x=>rfl|.m,x=>rfl|.ki _,x=>rfl|.z,x=>rfl|.l c,xs=>rfl|.un n,x=>List.length_replicate|.st n,x=>by
  match n,x with
  |0,x=>rfl|1,x=>rfl|2,x=>rfl|3,x=>rfl|4,x=>rfl|5,x=>rfl|6,x=>rfl|7,x=>rfl|8,x=>rfl|9,x=>rfl|10,x=>rfl|11,x=>rfl|12,x=>rfl|13,x=>rfl|14,x=>rfl|15,x=>rfl|16,x=>rfl|17,x=>rfl|_+18,x=>rfl
theorem OY(c:C)(x:c.D):(enc c x).length=c.size:=by rw[FV,Af,Yx]
theorem AWt{c:C}{us:List U}{x:c.D}(h:ofC c us=some x):us.length=c.size:=by rw[<-aJ h,Yx]
def Cap.fg:Cap->AT|.t x=>.t x.fg|.vw k c xs=>.vw (.old k) c.size (xs.map (enc c))|.vp k cs=>.vp (.old k) (cs.map U.fg)|.bp id off=>.bp id off
namespace Y
section
variable(R:List GF)
def xr(n:Nat):B2:=match R[n]? with|some g=>g.x|none=>.Jg 0 []
def M1(rows:List (List T)):List (Nat×Nat)->List (List T)| []=>rows|(i,j)::hs=>M1 (JE rows i j .top) hs
def AT.fg:AT->Lv.AT|.t x=>.t x.fg|.und=>.und|.ow x=>.ow x.fg|.owh c xs hs=>.ow (.sl c.size (M1 (xs.map (enc c)) hs))|.al r sub=>.al r sub|.ep r i j=>.ep r i.toNat j|.vw s c xs=>.vw s c.size (xs.map (enc c))|.vp s cs=>.vp s (cs.map U.fg)|.bp id off=>.bp id off|.fn n caps=>.fn (xr R n) (caps.map Cap.fg)
def Ent.fg(e:Ent):Lv.Ent:=⟨e.sh,e.cs.map (AT.fg R)⟩
def En.fg(e:En):Lv.Ent:=⟨e.sh,e.cs.map (AT.fg R)⟩
def fgE(l:List (Nat×Ent)):List (Nat×Lv.Ent):=l.map fun p=>(p.1,p.2.fg R)
def fgB(l:List (Nat×Bx)):List (Nat×List Lv.AT):=l.map fun p=>(p.1,p.2.cs.map (AT.fg R))
def St.fg(S:St):Lv.St:=⟨fgE R S.tm,fgB R S.bx,S.pin⟩
theorem mem_iff{k:Nat}{ks:List Nat}:mem k ks=true↔k∈ks:=by
 induction ks with
 |nil=>simp[mem]|cons x xs a=>
  simp only[mem,List.mem_cons];by_cases h:k=x
  .subst h;simp
  grind[Nat.beq,Nat.eq_of_beq_eq_true]
theorem NU{k:Nat}{ks:List Nat}:mem k ks=false↔k∉ks:=by
 rw[<-mem_iff];cases mem k ks<;>simp
theorem beq_true{a b:Nat}(h:Nat.beq a b=true):a=b:=IM h
theorem beq_false{a b:Nat}(h:Nat.beq a b=false):a≠b:=Hy h
theorem get_eq{α:Type}:∀(l:List (Nat×α)) (k:Nat),get l k=Lv.get l k
 | [],_=>rfl|(j,a)::r,k=>by
  simp only[get,Lv.get];cases h:Nat.beq j k with
  |true=>rw[AW (beq_true h)]|false=>rw[AR (beq_false h),get_eq r k]
theorem AIa{α:Type}:∀(l:List (Nat×α)) (k:Nat) (a:α),put l k a=Lv.put l k a
 | [],_,_=>rfl|(j,b)::r,k,a=>by
  simp only[put,Lv.put];cases h:Nat.beq k j with
  |true=>rw[AW (beq_true h)]|false=>
   rw[AR (beq_false h)];have g:=beq_false h;cases c:Nat.ble k j with
   |true=>have:=Nat.le_of_ble_eq_true c;rw[AW (by omega)]
   |false=>have:¬k<=j:=fun e=>by rw[Nat.ble_eq_true_of_le e]at c;cases c
           rw[AR (by omega),AIa r k a]
theorem kZ{α:Type}(ks:List Nat):∀(l:List (Nat×α)),Jo ks l=Lv.Jo ks l
 | []=>rfl|(j,b)::r=>by
  simp only[Jo,Lv.Jo];cases h:mem j ks with
  |true=>rw[AW (mem_iff.1 h),kZ ks r]|false=>rw[AR (NU.1 h),kZ ks r]
theorem Z8{α:Type}(ks:List Nat):∀(l:List (Nat×α)),Gl ks l=Lv.Gl ks l
 | []=>rfl|(j,b)::r=>by
  simp only[Gl,Lv.Gl];cases h:mem j ks with
  |true=>rw[AW (mem_iff.1 h),Z8 ks r]|false=>rw[AR (NU.1 h),Z8 ks r]
theorem get_map{α β:Type}(f:α->β):∀(l:List (Nat×α)) (k:Nat),Lv.get (l.map fun p=>(p.1,f p.2)) k=(Lv.get l k).map f
 | [],_=>rfl|(j,a)::r,k=>by
  simp only[AJ,Lv.get];by_cases h:j=k
  .simp[h]
  .simp[h,get_map f r k]
theorem yp{α β:Type}(f:α->β):∀(l:List (Nat×α)) (k:Nat) (a:α),Lv.put (l.map fun p=>(p.1,f p.2)) k (f a)=(Lv.put l k a).map fun p=>(p.1,f p.2)
 | [],_,_=>rfl|(j,b)::r,k,a=>by
  simp only[AJ,Lv.put];by_cases h:k=j
  .simp[h]
  .by_cases c:k<j
   .simp[h,c]
   .simp[h,c,yp f r k a]
theorem ZG{α β:Type}(f:α->β)(ks:List Nat):∀(l:List (Nat×α)),Lv.Jo ks (l.map fun p=>(p.1,f p.2))=(Lv.Jo ks l).map fun p=>(p.1,f p.2)
 | []=>rfl|(j,b)::r=>by
  simp only[AJ,Lv.Jo];by_cases h:j∈ks
  .simp[h,ZG f ks r]
  .simp[h,ZG f ks r]
theorem Q4{α β:Type}(f:α->β)(ks:List Nat):∀(l:List (Nat×α)),Lv.Gl ks (l.map fun p=>(p.1,f p.2))=(Lv.Gl ks l).map fun p=>(p.1,f p.2)
 | []=>rfl|(j,b)::r=>by
  simp only[AJ,Lv.Gl];by_cases h:j∈ks
  .simp[h,Q4 f ks r]
  .simp[h,Q4 f ks r]
variable {R}
theorem Xa(S:St)(k:Nat):Lv.get (S.fg R).tm k=(get S.tm k).map (Ent.fg R):=by rw[get_eq];exact get_map (Ent.fg R) S.tm k
theorem Pw(S:St)(k:Nat):Lv.get (S.fg R).bx k=(get S.bx k).map (fun b=>b.cs.map (AT.fg R)):=by rw[get_eq];exact get_map (fun b:Bx=>b.cs.map (AT.fg R)) S.bx k
end
end Y
end Lv
namespace Lv
open Go (IntKind BinOp UnOp)
namespace Y
section
variable{R:List GF}
theorem CH.AS0(r r':CH):CH.is r r'=decide (r=r'):=by
 have c:∀a b:Nat,Nat.beq a b=decide (a=b):=fun a b=>by
  grind[Nat.beq,beq_true,beq_false]
 cases r<;>cases r'<;>simp only[CH.is,CH.tmp.injEq,CH.cell.injEq,reduceCtorEq,decide_false]
 .grind
 grind
theorem Z5(o:Option CH)(r:CH):isR o r=decide (o=some r):=by
 cases o with
 |none=>simp[isR]|some q=>simp[isR,CH.AS0]
theorem Qd(a b:Nat):Nat.beq a b=decide (a=b):=by
 grind[Nat.beq,beq_true,beq_false]
theorem AYR(o:Option Nat)(r:Nat):isN o r=decide (o=some r):=by
 cases o with
 |none=>simp[isN]|some q=>simp[isN,Qd]
theorem T8(k:Nat)(ks:List Nat):mem k ks=decide (k∈ks):=by
 grind[mem,mem_iff,NU]
@[simp] theorem Kx(l:AT):(AT.fg R l).B1=l.B1:=by
 cases l<;>try rfl
 .rename_i s c xs;cases s<;>rfl
 .rename_i s cs;cases s<;>rfl
@[simp] theorem AQA(l:AT):(AT.fg R l).Ly=l.Ly:=by
 cases l<;>try rfl
 .rename_i r sub;cases r<;>rfl
 .rename_i r i j;cases r<;>rfl
 .rename_i s c xs;cases s with
  |own r p=>cases r<;>rfl
  |old k=>rfl
 .rename_i s cs;cases s with
  |own r p=>cases r<;>rfl
  |old k=>rfl
@[simp] theorem AFL(l:Cap):l.fg.Ly=l.Ly:=by cases l<;>rfl
theorem ar(l:Cap):AT.fg R l.leaf=l.fg:=by cases l<;>rfl
theorem ANt(r:CH)(l:AT):Lv.La r (AT.fg R l)=La r l:=by simp[Lv.La,La,Z5]
theorem RE(r:CH)(l:AT):Lv.FZ r (AT.fg R l)=FZ r l:=by
 cases l<;>try rfl
 .rename_i s c xs;cases s with|own r p=>simp[AT.fg,Lv.FZ,FZ,CH.AS0]|old k=>rfl
 .rename_i s cs;cases s with|own r p=>simp[AT.fg,Lv.FZ,FZ,CH.AS0]|old k=>rfl
theorem Xz(d:Nat)(l:AT):Lv.E8 d (AT.fg R l)=E8 d l:=by
 grind[Lv.E8,E8,Kx,Qd]
theorem Xy(d:Nat)(l:AT):Lv.Fl d (AT.fg R l)=Fl d l:=by
 have h:=AQA (R:=R) l;cases l<;>simp only[AT.fg]at h ⊢ <;> simp only[Lv.Fl,Fl,AYR]<;>first|rw[h]|skip
 simp[Hb,Function.comp_def]
theorem AYx(ks:List Nat)(o:Option Nat):(match o with|some d=>decide (d∉ks)|none=>false)=(match o with|some d=>!mem d ks|none=>false):=by
 grind[T8]
theorem ANs(ks:List Nat)(l:AT):Lv.LZ ks (AT.fg R l)=LZ ks l:=by
 have h:=AQA (R:=R) l;cases l with
 |fn n caps=>
  simp only[AT.fg,Lv.LZ,LZ,Hb,Function.comp_def,AFL];congr 1;funext x;exact AYx ks _
 |_=>
  grind[AT.fg,Lv.LZ,LZ,AT.Ly,T8]
theorem m9(ks:List Nat)(l:AT):Lv.Iq ks (AT.fg R l)=Iq ks l:=by
 grind[Lv.Iq,Iq,Kx,ANs,T8]
theorem AME(ks:List Nat)(l:AT):Lv.Zz ks (AT.fg R l)=Zz ks l:=by
 grind[Lv.Zz,Zz,Kx,T8]
theorem MN{q:AT->Bool}{q':Lv.AT->Bool}(a:∀l,q' (AT.fg R l)=q l):∀ls,Lv.Ec q' (ls.map (AT.fg R))=(Ec q ls).map (AT.fg R)
 | []=>rfl|l::ls=>by
  simp only[AJ,Lv.Ec,Ec,a,MN a ls];cases q l<;>rfl
theorem VW{q:AT->Bool}:∀{ls:List AT},ls.any q=false->Ec q ls=ls
 | [],_=>rfl|l::ls,h=>by
  simp only[List.any_cons,Bool.or_eq_false_iff]at h;simp only[Ec,h.1,Bool.false_eq_true,if_false,VW h.2]
theorem Xv{q:AT->Bool}{q':Lv.AT->Bool}(a:∀l,q' (AT.fg R l)=q l)(v:Nat):∀ls,Lv.LM q' (fgE R ls)=fgE R (LM v q ls)
 | []=>rfl|(k,e)::ls=>by
  have c:=Xv a v ls;simp only[fgE,AJ,Lv.LM,LM]at c ⊢;rw[c];congr 2;simp only[Ent.fg];cases h:e.cs.any q with
  |true=>simp only[if_true,MN a]|false=>rw[AR (by simp),MN a,VW h]
theorem Xu{q:AT->Bool}{q':Lv.AT->Bool}(a:∀l,q' (AT.fg R l)=q l)(v:Nat):∀ls,Lv.LL q' (fgB R ls)=fgB R (LL v q ls)
 | []=>rfl|(k,e)::ls=>by
  have c:=Xu a v ls;simp only[fgB,AJ,Lv.LL,LL]at c ⊢;rw[c];congr 2;cases h:e.cs.any q with
  |true=>simp only[if_true,MN a]|false=>rw[AR (by simp),MN a,VW h]
theorem Kq{q:AT->Bool}{q':Lv.AT->Bool}(a:∀l,q' (AT.fg R l)=q l)(S:St):(S.fg R).kill q'=(S.kill q).fg R:=by
 simp only[St.fg,Lv.St.kill,St.kill,Xv a S.nv,Xu a S.nv]
theorem Lt(S:St)(d:Nat)(sh:Sh)(cs:List AT):(S.J8 d sh cs).fg R={ S.fg R with tm:=Lv.put (S.fg R).tm d ⟨sh,cs.map (AT.fg R)⟩}:=by
 simp only[St.fg,St.J8,AIa,fgE];rw[<-yp (Ent.fg R)];rfl
theorem UF(S:St)(d:Nat)(cs:List AT):(S.OM d cs).fg R={ S.fg R with bx:=Lv.put (S.fg R).bx d (cs.map (AT.fg R))}:=by
 simp only[St.fg,St.OM,AIa,fgB];rw[<-yp (fun b:Bx=>b.cs.map (AT.fg R))]
theorem ADH(S:St)(ks:List Nat):(S.IQ ks).fg R=(S.fg R).IQ ks:=by
 simp only[St.fg,Lv.St.IQ,St.IQ,kZ];rw[<-Xv (AME ks),<-Xu (AME ks)];simp only[fgE];rw[<-ZG]
theorem WC(S:St)(ks:List Nat):(S.clean ks).fg R=(S.fg R).clean ks:=by
 simp only[St.fg,Lv.St.clean,St.clean,Z8];rw[<-Xv (m9 ks),<-Xu (m9 ks)];simp only[fgE,fgB];rw[<-Q4,<-Q4 (fun b:Bx=>b.cs.map (AT.fg R))]
theorem Jl(S:St)(r:CH):(S.fg R).at r=(S.at r).map (AT.fg R):=by
 cases r with
 |tmp s c=>
  grind[Lv.St.at,St.at,Xa,get,Ent.fg]
 |cell s c=>
  grind[Lv.St.at,St.at,Pw,get]
theorem Gp(S:St)(r:CH)(l:AT):(S.Bk r l).fg R=(S.fg R).Bk r (AT.fg R l):=by
 cases r with
 |tmp s c=>
  simp only[Lv.St.Bk,St.Bk,Xa];cases h:get S.tm s with
  |none=>rfl|some e=>simp[Lt,Ent.fg]
 |cell s c=>
  simp only[Lv.St.Bk,St.Bk,Pw];cases h:get S.bx s with
  |none=>rfl|some e=>simp[UF]
theorem AFX{l:AT}:AT.fg R l=.t .nil↔l=.t .nil:=by
 cases l<;>simp[AT.fg];rename_i x;cases x<;>simp[U.fg]
theorem AYu(S:St)(r:CH)(c:C):AT.fg R (S.nl0 r c)=(S.fg R).nl0 r c.size:=by
 cases r with
 |tmp s k=>rfl|cell id k=>
  simp only[St.nl0,Lv.St.nl0,T8];have a:(S.fg R).pin=S.pin:=rfl
  grind[AT.fg,U.fg]
def Rw.fg:Rw->List (List T)|.nl=>[]|.of c xs=>xs.map (enc c)
theorem VA{x:U}{w:Rw}(h:content x=some w):Lv.content x.fg=some w.fg:=by
 cases x<;>simp[content]at h<;>subst h<;>rfl
theorem aa{α β:Type}(f:α->β)(sub:Option (Nat×Nat))(xs:List α):(oQ sub xs).map f=oQ sub (xs.map f):=by
 cases sub with
 |none=>rfl|some p=>simp[oQ]
theorem zW(sub:Option (Nat×Nat))(xs:List (List T)):Jh sub xs=oQ sub xs:=by cases sub<;>rfl
theorem AVO(sub:Option (Nat×Nat))(w:Rw):(w.sub sub).fg=Jh sub w.fg:=by
 cases w with
 |nl=>cases sub<;>simp[Rw.sub,Rw.fg,Jh]
 |of c xs=>simp only[Rw.sub,Rw.fg,aa,zW]
theorem eA{c:C}{w:Rw}{ys:List c.D}(h:w.as c=some ys):w.fg=ys.map (enc c):=by
 cases w with
 |nl=>cases h;rfl
 |of e xs=>
  simp only[Rw.as]at h;split at h
  .rename_i a;subst a;cases h;rfl
  .cases h
theorem Yf(sub:Option (Nat×Nat))(x:U):(AIv sub x).fg=pS sub x.fg:=by
 cases x<;>try rfl
 simp only[AIv,U.fg,pS,aa,zW]
theorem Pu{S:St}{l:AT}{w:Rw}(h:S.elems l=some w):(S.fg R).elems (AT.fg R l)=some w.fg:=by
 unfold St.elems at h;split at h
 .grind[AT.fg,Lv.St.elems,Jl,VA,AVO]
 .cases h;rfl
 .cases h;rfl
 .cases h
theorem AXx(s c:Nat)(l:AT):AT.fg R (l.ali s c)=(AT.fg R l).ali s c:=by cases l<;>rfl
theorem uB(s:Nat):∀(c:Nat) (ls:List AT),(R6 s c ls).map (AT.fg R)=Lv.R6 s c (ls.map (AT.fg R))|_,[]=>rfl|c,l::ls=>by simp only[R6,AJ,Lv.R6,AXx,uB s (c+1) ls]
theorem AI8(b:Nat):∀(c:Nat) (ls:List AT),(Qa b c ls).map (AT.fg R)=Lv.Qa b c (ls.map (AT.fg R))
 |_,[]=>rfl|c,l::ls=>by
  have a:=AI8 b (c+1) ls;cases l<;>simp only[Qa,AJ,AT.fg,Lv.Qa,a]
theorem AS4(x:U):AT.fg R (sX x)=Lv.sX x.fg:=by cases x<;>rfl
def YO.er(R:List GF):YO->Opd|.tmp t=>.tmp t|.k x=>.k x.fg|.fn n=>.fn (xr R n)
theorem LO{S:St}{x:YO}{e:En}(h:S.rd x=some e):(S.fg R).rd (x.er R)=some (e.fg R):=by
 cases x with
 |tmp s=>
  grind[St.rd,YO.er,Lv.St.rd,Xa,get,Ent.fg,En.fg,uB]
 |k x=>cases h;simp[YO.er,Lv.St.rd,En.fg,AS4]
 |fn n=>cases h;rfl
theorem aS{S:St}:∀{xs:List YO} {es:List En},S.rds xs=some es->(S.fg R).rds (xs.map (YO.er R))=some (es.map (En.fg R))
 | [],es,h=>by cases h;rfl
 |x::xs,es,h=>by
  simp only[St.rds]at h;split at h
  .rename_i e a c g;cases h;simp only[AJ,Lv.St.rds,LO c,aS g]
  .cases h
structure BU(S S':St):Prop where
 nv:S.nv<=S'.nv
 tm:∀k e,get S'.tm k=some e->e.ver<S.nv->get S.tm k=some e
 bx:∀k e,get S'.bx k=some e->e.ver<S.nv->get S.bx k=some e
 pin:S'.pin=S.pin
theorem BU.refl(S:St):BU S S:=⟨Nat.le_refl _,fun _ _ h _=>h,fun _ _ h _=>h,rfl⟩
theorem BU.trans{S S' S2:St}(h:BU S S')(c:BU S' S2):BU S S2:=
 ⟨Nat.le_trans h.nv c.nv,fun k e g a=>h.tm k e (c.tm k e g (BR a h.nv)) a,fun k e g a=>h.bx k e (c.bx k e g (BR a h.nv)) a,c.pin.trans h.pin⟩
theorem Fq{α:Type}(l:List (Nat×α))(k j:Nat)(a:α):get (put l k a) j=if j=k then some a else get l j:=by
 induction l with
 |nil=>
  by_cases h:j=k
  .subst h;simp[put,get]
  grind[put,get,Nat.beq,beq_true]
 |cons p r c=>
  grind[put,Nat.beq,beq_true,get,beq_false,Nat.ble]
theorem BU.J8(S:St)(d:Nat)(sh:Sh)(cs:List AT):BU S (S.J8 d sh cs):=by
 refine⟨by simp[St.J8],fun k e a c=>?_,fun k e a _=>a,rfl⟩
 grind[St.J8,Fq]
theorem BU.OM(S:St)(d:Nat)(cs:List AT):BU S (S.OM d cs):=by
 refine⟨by simp[St.OM],fun k e a _=>a,fun k e a c=>?_,rfl⟩
 grind[St.OM,Fq]
theorem FJ{v:Nat}{q:AT->Bool}:∀{l:List (Nat×Ent)} {k:Nat} {e:Ent},get (LM v q l) k=some e->e.ver<v->get l k=some e
 | [],_,_,h,_=>h|(i,b)::r,k,e,h,c=>by
  simp only[LM,get]at h ⊢;cases a:Nat.beq i k with
  |true=>
   grind[Option.some.injEq]
  |false=>rw[a]at h;exact FJ h c
theorem DR{v:Nat}{q:AT->Bool}:∀{l:List (Nat×Bx)} {k:Nat} {e:Bx},get (LL v q l) k=some e->e.ver<v->get l k=some e
 | [],_,_,h,_=>h|(i,b)::r,k,e,h,c=>by
  simp only[LL,get]at h ⊢;cases a:Nat.beq i k with
  |true=>
   grind[Option.some.injEq]
  |false=>rw[a]at h;exact DR h c
theorem LU{α:Type}{ks:List Nat}:∀{l:List (Nat×α)} {k:Nat} {e:α},get (Jo ks l) k=some e->get l k=some e
 | [],_,_,h=>h|(i,b)::r,k,e,h=>by
  simp only[Jo]at h;simp only[get];cases y:mem i ks with
  |true=>
   rw[y]at h;cases a:Nat.beq i k with
   |true=>
    have q:=beq_true a;subst q;exfalso;have:∀(l:List (Nat×α)) (e:α),get (Jo ks l) i≠some e:=by
     intro l
     induction l with
     |nil=>intro e h;cases h
     |cons p r E=>
      intro e h;obtain⟨j,c⟩:=p;simp only[Jo]at h;cases g:mem j ks with
      |true=>rw[g]at h;exact E e h|false=>
       rw[g]at h;simp only[get]at h;cases B:Nat.beq j i with
       |true=>have:=beq_true B;subst this;rw[y]at g;cases g
       |false=>rw[B]at h;exact E e h
    exact this r e h
   |false=>exact LU h
  |false=>
   rw[y]at h;simp only[get]at h;cases a:Nat.beq i k with
   |true=>rw[a]at h;exact h|false=>rw[a]at h;exact LU h
theorem HN{α:Type}{ks:List Nat}:∀{l:List (Nat×α)} {k:Nat} {e:α},get (Gl ks l) k=some e->get l k=some e
 | [],_,_,h=>h|(i,b)::r,k,e,h=>by
  simp only[Gl]at h;simp only[get];cases y:mem i ks with
  |false=>
   rw[y]at h;cases a:Nat.beq i k with
   |true=>
    have q:=beq_true a;subst q;exfalso;have:∀(l:List (Nat×α)) (e:α),get (Gl ks l) i≠some e:=by
     intro l
     induction l with
     |nil=>intro e h;cases h
     |cons p r E=>
      intro e h;obtain⟨j,c⟩:=p;simp only[Gl]at h;cases g:mem j ks with
      |false=>rw[g]at h;exact E e h|true=>
       rw[g]at h;simp only[get]at h;cases B:Nat.beq j i with
       |true=>have:=beq_true B;subst this;rw[y]at g;cases g
       |false=>rw[B]at h;exact E e h
    exact this r e h
   |false=>exact HN h
  |true=>
   rw[y]at h;simp only[get]at h;cases a:Nat.beq i k with
   |true=>rw[a]at h;exact h|false=>rw[a]at h;exact HN h
theorem BU.kill(S:St)(q:AT->Bool):BU S (S.kill q):=
 ⟨by simp[St.kill],fun _ _ a c=>FJ a c,fun _ _ a c=>DR a c,rfl⟩
theorem BU.IQ(S:St)(ks:List Nat):BU S (S.IQ ks):=
 ⟨by simp[St.IQ],fun _ _ a c=>LU (FJ a c),fun _ _ a c=>DR a c,rfl⟩
theorem BU.clean(S:St)(ks:List Nat):BU S (S.clean ks):=
 ⟨by simp[St.clean],fun _ _ a c=>HN (FJ a c),fun _ _ a c=>HN (DR a c),rfl⟩
theorem BU.Bk(S:St)(r:CH)(l:AT):BU S (S.Bk r l):=by
 cases r<;>simp only[St.Bk]<;>split<;>first|exact BU.J8 _ _ _ _|exact BU.OM _ _ _|exact BU.refl _
theorem BU.out(S:St)(r:CH):BU S (S.out r):=(BU.Bk _ _ _).trans (BU.kill _ _)
theorem BU.aH(S:St)(r:CH)(c:C):BU S (S.aH r c):=by
 unfold St.aH St.turn
 repeat' split
 all_goals first|exact BU.refl _|exact BU.Bk _ _ _|exact((BU.out _ _).trans (BU.Bk _ _ _)).trans (BU.Bk _ _ _)
theorem BU.RB:∀(ns:List (CH×C)) (S:St),BU S (S.RB ns)| [],S=>BU.refl S|(r,c)::ns,S=>(BU.aH S r c).trans (BU.RB ns _)
theorem GV{γ:Type}(n:Nat)(K:Nat->γ):DT n K=K n:=by cases n<;>rfl
theorem U.FE{γ:Type}(x:U)(K:U->γ):x.Fp K=K x:=by cases x<;>rfl
theorem ko{γ:Type}:∀(xs:List U) (K:List U->γ),dX xs K=K xs| [],K=>rfl|x::xs,K=>by simp only[dX,U.FE,ko xs]
theorem sF{γ:Type}(r:CH)(K:CH->γ):kj r K=K r:=by cases r<;>simp only[kj,GV]
theorem ADQ{γ:Type}(r:Src)(K:Src->γ):Sk r K=K r:=by
 cases r with
 |own r p=>simp only[Sk,sF];cases p with|none=>rfl|some p=>obtain⟨i,j⟩:=p;simp only[GV]
 |old k=>simp only[Sk,GV]
theorem AT.FE{γ:Type}(x:AT)(K:AT->γ):x.Fp K=K x:=by
 cases x<;>simp only[AT.Fp,U.FE,sF,GV,ADQ,ko]
 grind
theorem Qp{γ:Type}:∀(xs:List AT) (K:List AT->γ),T2 xs K=K xs| [],K=>rfl|x::xs,K=>by simp only[T2,AT.FE,Qp xs]
theorem VK{γ:Type}:∀(xs:List (Option Nat)) (K:List (Option Nat)->γ),T3 xs K=K xs| [],K=>rfl|none::xs,K=>by simp only[T3,VK xs]|some n::xs,K=>by simp only[T3,GV,VK xs]
theorem km{γ:Type}(x:Sh)(K:Sh->γ):dW x K=K x:=by cases x<;>simp only[dW,VK,GV]
theorem sD{γ:Type}:∀(xs:List (Nat×Ent)) (K:List (Nat×Ent)->γ),vP xs K=K xs| [],K=>rfl|(k,⟨sh,cs,v⟩)::xs,K=>by simp only[vP,km,Qp,GV,sD xs]
theorem sC{γ:Type}:∀(xs:List (Nat×Bx)) (K:List (Nat×Bx)->γ),vO xs K=K xs| [],K=>rfl|(k,⟨cs,v⟩)::xs,K=>by simp only[vO,Qp,GV,sC xs]
theorem sE{γ:Type}:∀(xs:List Nat) (K:List Nat->γ),vQ xs K=K xs| [],K=>rfl|k::xs,K=>by simp only[vQ,sE xs]
theorem FE{γ:Type}(S:St)(K:St->γ):S.Fp K=K S:=by
 obtain⟨tm,bx,pin,nv⟩:=S;simp only[St.Fp,sD,sC,sE,GV]
theorem AMW{α γ:Type}(s:Nat)(a:α):∀(l:List (Nat×α)) (K:List (Nat×α)->γ),AW4 s a l K=K (put l s a)
 | [],K=>rfl|(k,b)::r,K=>by
  simp only[AW4,put];cases Nat.beq s k with
  |true=>rfl|false=>cases Nat.ble s k with|true=>rfl|false=>simp only[AMW s a r]
variable{ρ:Type}
theorem dm{S:St}{d:Nat}{sh:Sh}{cs:List AT}{K:St->Option ρ}{r:ρ}(h:HZ S d sh cs K=some r) :
 ∃S',(S.fg R).EL d ⟨sh,cs.map (AT.fg R)⟩=some (S'.fg R)/\BU S S'/\K S'=some r:=by
 unfold HZ at h;cases c:mem d S.pin with
 |true=>rw[c]at h;cases h
 |false=>
  rw[c]at h;have g:d∉(S.fg R).pin:=NU.1 c;cases a:get S.tm d with
  |none=>
   rw[a]at h;simp only[km,Qp,GV,AMW]at h;refine⟨S.J8 d sh cs,?_,BU.J8 _ _ _ _,h⟩
   grind[Lt,Lv.St.EL,Xa]
  |some e=>
   rw[a]at h;simp only[FE]at h;refine⟨_,?_,(BU.kill _ _).trans (BU.J8 _ _ _ _),h⟩;unfold Lv.St.EL;rw[AR g,Xa,a,Lt,<-Kq (Xz d),<-MN (Xz d)];rfl
end
end Y
end Lv
namespace Lv
open Go (IntKind BinOp UnOp)
namespace Y
section
variable{R:List GF}
theorem AWe(l:AT):Lv.yA (AT.fg R l)=yA l:=by cases l<;>rfl
theorem AU8(a b:Option CH):(match a with|some r=>isR b r|none=>b.isNone)=decide (a=b):=by
 cases a with
 |none=>cases b<;>simp
 |some r=>simp only[Z5];rw[decide_eq_decide];exact eq_comm
theorem ta:∀ls:List AT,Lv.OH (ls.map (AT.fg R))=OH ls
 | []=>rfl|l::ls=>by
  simp only[AJ,Lv.OH,OH,ta ls,Mq,Function.comp_def,AWe,Kx];congr 1;refine congrArg (fun f=>List.all ls f) (funext fun l'=>?_);rw[<-AU8]<;>(cases l.B1<;>rfl)
theorem Vd(S:St)(r:CH):(S.out r).fg R=(S.fg R).out r:=by
 unfold St.out Lv.St.out;rw[<-Kq (ANt r),Gp];rfl
theorem AXP(S:St)(r:CH):(S.turn r).fg R=(S.fg R).turn r:=by
 unfold St.turn Lv.St.turn;rw[Jl];cases h:S.at r with
 |none=>rfl|some l=>
  cases l with
  |al r' sub=>
   cases sub with
   |none=>
    simp only[An,AT.fg];rw[Jl];cases a:S.at r' with
    |none=>rfl|some l'=>cases l'<;>simp[AT.fg,Gp,Vd]
   |some p=>rfl
  |_=>rfl
theorem AWr(S:St)(r:CH)(c:C):(S.aH r c).fg R=(S.fg R).aH r c.size:=by
 unfold St.aH Lv.St.aH;cases a:Nat.beq c.size 0 with
 |true=>rw[AW (IM a)];exact AXP S r|false=>
  rw[AR (Hy a),Jl];cases h:S.at r with
  |none=>rfl|some l=>grind[AT.fg,U.fg,Gp,AYu,AFX]
theorem yG:∀(ns:List (CH×C)) (S:St),(S.RB ns).fg R=(S.fg R).RB (ns.map fun p=>(p.1,p.2.size))| [],S=>rfl|(r,c)::ns,S=>by simp only[St.RB,AJ,Lv.St.RB];rw[yG ns,AWr]
theorem oV:∀{ls:List AT} {S S':St} {ls':List AT},Jt S ls=some (S',ls')->Lv.Jt (S.fg R) (ls.map (AT.fg R))=some (S'.fg R,ls'.map (AT.fg R))/\BU S S'
 | [],S,S',ls',h=>by cases h;exact⟨rfl,BU.refl _⟩
 |l::ls,S,S',ls',h=>by
  have gen:(match Jt S ls with|some (S',ls')=>some (S',l::ls')|none=>none)=some (S',ls') ->
   (match Lv.Jt (S.fg R) (ls.map (AT.fg R)) with|some (S',ls')=>some (S',AT.fg R l::ls')|none=>none)=some (S'.fg R,ls'.map (AT.fg R))/\BU S S':=by
   intro h;split at h
   .rename_i S2 j c;cases h;obtain⟨a,e⟩:=oV c;rw[a];exact⟨rfl,e⟩
   .cases h
  cases l with
  |al r sub=>
   simp only[Jt]at h;simp only[AJ,AT.fg,Lv.Jt,Jl];split at h
   .rename_i x g;rw[g];split at h
    .rename_i S2 j c;cases h;obtain⟨a,e⟩:=oV c;rw[Vd]at a;simp only[An,AT.fg,a,AJ,Yf];exact⟨trivial,(BU.out _ _).trans e⟩
    .cases h
   .cases h
  |_=>exact gen h
theorem QO{ls:List AT}{S S':St}{ls':List AT}(h:LP S ls=some (S',ls')):Lv.LP (S.fg R) (ls.map (AT.fg R))=some (S'.fg R,ls'.map (AT.fg R))/\BU S S':=by
 grind[LP,Lv.LP,ta,oV]
theorem AV6{x:YO}{ls:List AT}{S S':St}{ls':List AT}(h:uK S x ls=some (S',ls')):Lv.uK (S.fg R) (x.er R) (ls.map (AT.fg R))=some (S'.fg R,ls'.map (AT.fg R))/\BU S S':=by
 cases x with
 |tmp s=>
  unfold uK at h;unfold Lv.uK;simp only[YO.er];dsimp only at h;split at h
  .rename_i a;rw[AW (show s∈(S.fg R).pin from mem_iff.1 a)];cases h;exact⟨rfl,BU.refl _⟩
  .rename_i a;rw[AR (show s∉(S.fg R).pin from NU.1 a)];exact QO h
 |k y=>exact QO h|fn n=>exact QO h
theorem mZ(x:U):Lv.Rm x.fg=Rm x:=by cases x<;>rfl
theorem AWh(x:U):Lv.Z6 x.fg=Z6 x:=by cases x<;>rfl
theorem ANX(rows:List (List T)):∀(c:List (Nat×Nat)) (i j:Nat),M1 rows (c++[(i,j)])=JE (M1 rows c) i j .top:=by
 intro c
 induction c generalizing rows with
 |nil=>intro i j;rfl
 |cons p c e=>intro i j;obtain⟨a,b⟩:=p;simp only[List.cons_append,M1];exact e _ i j
theorem AMV{S S':St}{r:CH}{i j:Nat}(h:S.pull r i j=some S'):(S.fg R).pull r i j=some (S'.fg R)/\BU S S':=by
 unfold St.pull at h;unfold Lv.St.pull;rw[Jl];split at h
 .rename_i c xs a;cases h;rw[a];simp only[An,AT.fg,U.fg,AD];refine⟨?_,(BU.Bk _ _ _).trans (BU.kill _ _)⟩;rw[<-Kq (RE r),Gp];rfl
 .rename_i c xs e a;cases h;rw[a];simp only[An,AT.fg,AD];refine⟨?_,(BU.Bk _ _ _).trans (BU.kill _ _)⟩;rw[<-Kq (RE r),Gp];simp only[AT.fg,ANX]
 .cases h
theorem ATW(r:CH):∀ls:List AT,Lv.onR r (ls.map (AT.fg R))=onR r ls| []=>rfl|l::ls=>by simp only[AJ,Lv.onR,onR,Kx,Z5,ATW r ls]
theorem Lr:∀{ls:List AT} {S S':St} {us:List U},Dm S ls=some (S',us)->Lv.Dm (S.fg R) (ls.map (AT.fg R))=some (S'.fg R,us.map U.fg)/\BU S S'
 | [],S,S',us,h=>by cases h;exact⟨rfl,BU.refl _⟩
 |l::ls,S,S',us,h=>by
  cases l with
  |t x=>
   simp only[Dm]at h;simp only[AJ,AT.fg,Lv.Dm,mZ];split at h
   .cases h
   .rename_i y;rw[AR y];split at h
    .rename_i S2 E e;cases h;obtain⟨a,g⟩:=Lr e;rw[a];exact⟨rfl,g⟩
    .cases h
  |al r sub=>
   simp only[Dm]at h;simp only[AJ,AT.fg,Lv.Dm,Jl];split at h
   .rename_i x B;rw[B];split at h
    .rename_i S2 E e;cases h;obtain⟨a,g⟩:=Lr e;rw[Vd]at a;simp only[An,AT.fg,a,AJ,Yf];exact⟨trivial,(BU.out _ _).trans g⟩
    .cases h
   .cases h
  |vw s c xs=>
   cases s with
   |old k=>cases h
   |own r p=>
    cases p with
    |none=>
     simp only[Dm]at h;simp only[AJ,AT.fg,Lv.Dm,Jl];split at h
     .rename_i x B;rw[B];split at h
      .rename_i S2 E e;cases h;obtain⟨a,g⟩:=Lr e;rw[Vd]at a;simp only[An,AT.fg,a,AJ,U.fg];exact⟨trivial,(BU.out _ _).trans g⟩
      .cases h
     .cases h
    |some q=>
     obtain⟨i,j⟩:=q;simp only[Dm]at h;simp only[AJ,AT.fg,Lv.Dm,ATW];split at h
     .cases h
     .rename_i y;rw[AR y];split at h
      .rename_i S1 G;obtain⟨H,I⟩:=AMV (R:=R) G;rw[H];split at h
       .rename_i S2 E e;cases h;obtain⟨a,g⟩:=Lr e;simp only[a,AJ,U.fg];exact⟨trivial,I.trans g⟩
       .cases h
      .cases h
  |_=>cases h
theorem AVf{S:St}{l:AT}{u:U}(h:S.HX l=some u):(S.fg R).HX (AT.fg R l)=some u.fg:=by
 cases l with
 |t x=>cases h;rfl
 |al r sub=>
  grind[St.HX,AT.fg,Lv.St.HX,Jl,Yf]
 |vw s c xs=>cases h;rfl
 |ow x=>cases h;rfl
 |_=>cases h
theorem UM{S:St}:∀{ls:List AT} {us:List U},S.HR ls=some us->(S.fg R).HR (ls.map (AT.fg R))=some (us.map U.fg)
 | [],us,h=>by cases h;rfl
 |l::ls,us,h=>by
  simp only[St.HR]at h;split at h
  .rename_i x xs a c;cases h;simp only[AJ,Lv.St.HR,AVf a,UM c]
  .cases h
theorem AP7{k:Nat}{l:AT}{u:U}(h:PW k l=some u):Lv.PW k (AT.fg R l)=some u.fg:=by
 cases l with
 |t x=>cases h;rfl
 |vw s c xs=>
  cases s with
  |own r p=>cases h
  |old e=>
   simp only[PW]at h;simp only[AT.fg,Lv.PW];split at h
   .rename_i a;cases h;rw[AW a];rfl
   .cases h
 |_=>cases h
theorem PX{k:Nat}:∀{ls:List AT} {us:List U},Fh k ls=some us->Lv.Fh k (ls.map (AT.fg R))=some (us.map U.fg)
 | [],us,h=>by cases h;rfl
 |l::ls,us,h=>by
  simp only[Fh]at h;split at h
  .rename_i x xs a c;cases h;simp only[AJ,Lv.Fh,AP7 a,PX c]
  .cases h
theorem N4:∀ls:List AT,Lv.Da (ls.map (AT.fg R))=Da ls
 | []=>rfl|l::ls=>by
  have a:=N4 ls;cases l with
  |vw s c xs=>cases s with|old k=>rfl|own r p=>simpa[AT.fg,Lv.Da,Da] using a
  |_=>simpa[AT.fg,Lv.Da,Da] using a
theorem AS9(k:Nat)(u:U):AT.fg R (EZ k u)=Lv.EZ k u.fg:=by cases u<;>rfl
theorem AS5(u:U):AT.fg R (Jr u)=Lv.Jr u.fg:=by cases u<;>rfl
theorem sW(s:Src)(u:U):AT.fg R (Kr s u)=Lv.Kr s u.fg:=by cases u<;>rfl
theorem P7(k:Nat)(us:List U):(us.map (EZ k)).map (AT.fg R)=(us.map U.fg).map (Lv.EZ k):=by simp[Function.comp_def,AS9]
theorem aE(us:List U):(us.map Jr).map (AT.fg R)=(us.map U.fg).map Lv.Jr:=by simp[Function.comp_def,AS5]
theorem nr:∀ls:List AT,Lv.Om (ls.map (AT.fg R))=Om ls| []=>rfl|l::ls=>by simp only[AJ,Lv.Om,Om,Kx,nr ls]
theorem ANx(l:AT):Lv.RI (AT.fg R l)=RI l:=by
 cases l<;>try rfl
 .rename_i r sub;cases sub<;>rfl
 .rename_i s c xs;cases s with
  |own r p=>cases p<;>rfl
  |old k=>rfl
theorem AV9{S:St}{m:Bool}{l:Cap}{us:List U}(h:AYA S m l=some us):Lv.ANA (S.fg R) l.fg=some (match m with|false=>.v .one (us.map U.fg)|true=>.p (us.map U.fg)):=by
 cases m<;>cases l<;>simp only[AYA]at h
 .cases h;rfl
 .cases h;rfl
 .cases h
 .cases h
 .cases h
 .cases h
 .cases h;rfl
 .rename_i id off;simp only[Cap.fg,Lv.ANA,Pw];split at h
  .rename_i ls a;rw[a];split at h
   .rename_i c;simp only[An,nr,c,if_true];have:=UM (R:=R) h;rw[CV]at this;rw[this];rfl
   .cases h
  .cases h
theorem AAS{S:St}:∀{l:List (Bool×C)} {cs:List Cap} {y:tt l},AJU S l cs=some y->Lv.eH (S.fg R) (cs.map Cap.fg)=some (SA l y)
 | [],[],y,h=>by cases h;rfl
 |(m,c)::l,[],y,h=>by cases h
 | [],a::cs,y,h=>by cases h
 |(m,c)::l,a::cs,y,h=>by
  simp only[AJU]at h;split at h
  .rename_i us e;split at h
   .rename_i x q g j;cases h;simp only[AJ,Lv.eH,AV9 e,AAS j];cases m<;>simp only[SA,Ir g]
   .cases h
  .cases h
theorem YV{a b:Sh}(h:APO a b=true):a=b:=by cases a<;>cases b<;>simp[APO]at h<;>rfl
end
end Y
end Lv
namespace Lv
open Go (IntKind BinOp UnOp)
namespace Y
section
variable{R:List GF}
def Al(R:List GF)(fs:List Nat)(xs:List B2):Prop:=∀(i:Nat) (x:B2) (n:Nat),xs[i]?=some x->fs[i]?=some n->xr R n=x
theorem Al.of{fs:List Nat}{xs:List B2}(h:fs.map (fun n=>(R[n]?).map GF.x)=xs.map some):Al R fs xs:=by
 intro i x n a c;have e:=congrArg (fun l=>l[i]?) h;simp only[List.getElem?_map,a,c,An]at e;unfold xr
 grind
theorem Al.nil(xs:List B2):Al R [] xs:=by intro i x n _ h;simp at h
theorem Al.tail{fs:List Nat}{x:B2}{xs:List B2}(h:Al R fs (x::xs)):Al R fs.tail xs:=by
 intro i y n e c;cases fs with
 |nil=>simp at c|cons a fs=>exact h (i+1) y n (by simpa using e) (by simpa using c)
theorem AVV(k:PK):k.md.E9=PK.E9 k:=by cases k<;>rfl
theorem tq(k:PK):k.md.writes=PK.writes k:=by cases k<;>rfl
theorem AEv:∀(ks:List PK) (es:List En),Lv.HV (ks.map PK.md) (es.map (En.fg R))=(HV ks es).map (AT.fg R)
 | [],es=>by cases es<;>rfl
 |k::ks,[]=>rfl|k::ks,e::es=>by
  simp only[AJ,Lv.HV,HV,AVV,List.map_append,AEv ks es];congr 1;split<;>simp[En.fg]
def bp0:En->Option Nat|⟨.one,[.bp id 0]⟩=>some id|_=>none
def AYe:Lv.Ent->Option Nat|⟨.one,[.bp id 0]⟩=>some id|_=>none
theorem AQB(e:En):AYe (e.fg R)=bp0 e:=by
 obtain⟨sh,cs⟩:=e;cases sh<;>try rfl
 rcases cs with _|⟨l,_|⟨a,ls⟩⟩
 .rfl
 .cases l<;>try rfl
  rename_i id off;cases off<;>rfl
 .cases l<;>try rfl
  rename_i id off;cases off<;>rfl
theorem AV3(S:St)(c:C)(ks:List PK)(e:En)(es:List En):Es S (.b c::ks) (e::es)=match bp0 e with
 |some id=>(match get S.bx id with|some ls=>Es (S.OM id (ls.cs.map fun _=>.t .top)) ks es|none=>Es S ks es)
 |none=>Es S ks es:=by
 obtain⟨sh,cs⟩:=e;cases sh<;>try rfl
 rcases cs with _|⟨l,_|⟨a,ls⟩⟩
 .rfl
 .cases l<;>try rfl
  rename_i id off;cases off<;>rfl
 .cases l<;>try rfl
  rename_i id off;cases off<;>rfl
theorem AS3(S:Lv.St)(ms:List Md)(e:Lv.Ent)(es:List Lv.Ent):Lv.Es S (.b::ms) (e::es)=match AYe e with
 |some id=>(match Lv.get S.bx id with|some ls=>Lv.Es { S with bx:=Lv.put S.bx id (ls.map fun _=>.t .top)} ms es|none=>Lv.Es S ms es)
 |none=>Lv.Es S ms es:=by
 obtain⟨sh,cs⟩:=e;cases sh<;>try rfl
 rcases cs with _|⟨l,_|⟨a,ls⟩⟩
 .rfl
 .cases l<;>try rfl
  rename_i id off;cases off<;>rfl
 .cases l<;>try rfl
  rename_i id off;cases off<;>rfl
theorem PY:∀(ks:List PK) (S:St) (es:List En),(Es S ks es).fg R=Lv.Es (S.fg R) (ks.map PK.md) (es.map (En.fg R))/\BU S (Es S ks es)
 | [],S,es=>by cases es<;>exact⟨rfl,BU.refl _⟩
 |k::ks,S,[]=>by exact⟨rfl,BU.refl _⟩|k::ks,S,e::es=>by
  cases k with
  |b c=>
   rw[AV3];simp only[AJ,PK.md];rw[AS3,AQB];cases bp0 e with
   |none=>dsimp only;exact PY ks S es|some id=>
    simp only[Pw];cases get S.bx id with
    |none=>exact PY ks S es|some ls=>
     obtain⟨a,g⟩:=PY ks (S.OM id (ls.cs.map fun _=>.t .top)) es;refine⟨?_,(BU.OM _ _ _).trans g⟩;simp only[An];rw[a,UF];simp[Function.comp_def,AT.fg,U.fg]
  |_=>
   have h:=PY ks S es;simpa only[Es,Lv.Es,AJ,PK.md] using h
theorem AVu{S:St}{c:C}{e:En}{x:c.D}(h:AX0 S c e=some x):Lv.R8 (S.fg R) .p (e.fg R)=some (.p (enc c x)):=by
 simp only[AX0]at h;split at h
 .rename_i id off;simp only[En.fg,AJ,BX,AT.fg,Lv.R8,Pw];split at h
  .rename_i ls a;rw[a];split at h
   .rename_i g;simp only[An,nr,g,if_true];split at h
    .rename_i us j;have:=UM (R:=R) j;rw[CV]at this;rw[this,Ir h]
    .cases h
   .cases h
  .cases h
 .simp only[En.fg,AJ,BX,AT.fg,Lv.R8,Ir h]
 .cases h
theorem AVs{S:St}{c:C}{e:En}{x:c.D}(h:AXy S c e=some x):Lv.R8 (S.fg R) .b (e.fg R)=some (.b (enc c x)):=by
 simp only[AXy]at h;split at h
 .rename_i id;simp only[En.fg,AJ,BX,AT.fg,Lv.R8,Pw];split at h
  .rename_i ls a;rw[a];split at h
   .rename_i us g;simp only[An,N4,PX g,Ir h]
   .cases h
  .cases h
 .cases h
theorem AVt{S:St}{fs:List Nat}{x:B2}{xs:List B2}{l:List (Bool×C)}{e:En}{y:tt l}(hA:Al R fs (x::xs))(h:AXz S fs l e=some y):Lv.R8 (S.fg R) .v (e.fg R)=some (.f x (SA l y)):=by
 simp only[AXz]at h;split at h
 .rename_i n caps;split at h
  .rename_i g a;split at h
   .rename_i c;subst c;have:=hA 0 x g rfl rfl;simp only[En.fg,AJ,BX,AT.fg,Lv.R8,AAS h,this]
   .cases h
  .cases h
 .cases h
theorem AYv{S:Lv.St}{e:Lv.Ent}{cs:List T}(h:S.HR e.cs=some cs):Lv.R8 S .v e=some (.v e.sh cs):=by
 obtain⟨sh,ls⟩:=e;have gen:(match S.HR ls with|some cs=>some (V.v sh cs)|none=>none)=some (.v sh cs):=by dsimp only at h;rw[h]
 cases sh<;>try exact gen
 rcases ls with _|⟨l,_|⟨a,ls⟩⟩
 .exact gen
 .cases l<;>try exact gen
  simp[Lv.St.HR,Lv.St.HX]at h
 .cases l<;>exact gen
theorem AVv{S:St}{c:C}{e:En}{x:c.D}(h:AX1 S c e=some x)(a:e.sh=shC c):Lv.R8 (S.fg R) .v (e.fg R)=some (.v (shC c) (enc c x)):=by
 simp only[AX1]at h;split at h
 .rename_i us g;have:=AYv (e:=e.fg R) (UM (R:=R) g);rw[this];simp only[En.fg,a,Ir h]
 .cases h
theorem Q8{S:St}:∀{ks:List PK} {fs:List Nat} {es:List En} {us:List U} {a:A ks},Al R fs (fX ks)->JC S fs ks es us=some a->Lv.JC (S.fg R) (ks.map PK.md) (es.map (En.fg R)) (us.map U.fg)=some (aVs ks a)
 | [],fs,[],us,a,_,h=>by simp[Lv.JC,aVs]| [],fs,e::es,us,a,_,h=>by simp[JC]at h|k::ks,fs,[],us,a,_,h=>by simp[JC]at h|k::ks,fs,e::es,us,a,hA,h=>by
  cases k with
  |o c=>
   simp only[JC]at h;split at h
   .rename_i q;split at h
    .rename_i x y g j;cases h;have B:=Q8 (show Al R fs (fX ks) from hA) j;rw[CV]at B;simp only[AJ,PK.md,Lv.JC,En.fg,Af,B,aVs,PK.V,Ir g,Cn,YV q]
    .cases h
   .cases h
  |m c=>
   simp only[JC]at h;split at h
   .rename_i q;split at h
    .rename_i x y g j;cases h;have B:=Q8 (show Al R fs (fX ks) from hA) j;rw[CV]at B;have E:(e.cs.map (AT.fg R)).all Lv.RI=true:=by rw[Mq];simpa[Function.comp_def,ANx] using q.2.1
     simp only[AJ,PK.md,Lv.JC,En.fg,Af,B,aVs,PK.V,Ir g,Cn,YV q.1,E];rw[AW ⟨trivial,by rw[<-YV q.1];exact q.2.2⟩]
    .cases h
   .cases h
  |f x l=>
   simp only[JC]at h;split at h
   .rename_i y z g j;cases h;simp only[AJ,PK.md,Lv.JC,AVt hA g,Q8 hA.tail j,aVs,PK.V]
   .cases h
  |v c=>
   simp only[JC]at h;split at h
   .rename_i q;split at h
    .rename_i y z g j;cases h;simp only[AJ,PK.md,Lv.JC,AVv g (YV q),Q8 (show Al R fs (fX ks) from hA) j,aVs,PK.V]
    .cases h
   .cases h
  |p c=>
   simp only[JC]at h;split at h
   .rename_i y z g j;cases h;simp only[AJ,PK.md,Lv.JC,AVu g,Q8 (show Al R fs (fX ks) from hA) j,aVs,PK.V]
   .cases h
  |b c=>
   simp only[JC]at h;split at h
   .rename_i y z g j;cases h;simp only[AJ,PK.md,Lv.JC,AVs g,Q8 (show Al R fs (fX ks) from hA) j,aVs,PK.V]
   .cases h
theorem AP4{S S':St}{ks:List PK}{fs:List Nat}{es:List En}{a:A ks}(hA:Al R fs (fX ks))(h:V2 S fs ks es=some (S',a)) :
 Lv.V2 (S.fg R) (ks.map PK.md) (es.map (En.fg R))=some (S'.fg R,aVs ks a)/\BU S S':=by
 unfold V2 at h;unfold Lv.V2;split at h
 .rename_i S1 us c;obtain⟨e,g⟩:=Lr (R:=R) c;rw[AEv,e];split at h
  .rename_i B j;cases h;obtain⟨q,y⟩:=PY (R:=R) ks S1 es;simp only[Q8 hA j,q];exact⟨trivial,g.trans y⟩
  .cases h
 .cases h
theorem mr(l:AT):Lv.names (AT.fg R l)=names l:=by
 cases l<;>try rfl
 rename_i n caps;simp only[AT.fg,Lv.names,names,List.filterMap_map];congr 1;funext c;cases c<;>rfl
theorem APP(l l':AT):Lv.TR (AT.fg R l) (AT.fg R l')=TR l l':=by
 grind[Lv.TR,TR,Kx,mr,Xy,Z5]
theorem APQ(l l':AT):Lv.RO (AT.fg R l) (AT.fg R l')=RO l l':=by
 grind[Lv.RO,RO,Kx,mr,Xy,Z5]
theorem APR(e a:En):Lv.shares (e.fg R) (a.fg R)=shares e a:=by
 simp only[Lv.shares,shares,En.fg,Hb,Function.comp_def,APP]
theorem AAU:∀(ks:List PK) (prev es:List En),Lv.PZ (prev.map (En.fg R)) (ks.map PK.md) (es.map (En.fg R))=PZ prev ks es
 | [],prev,es=>by cases es<;>rfl
 |k::ks,prev,[]=>rfl|k::ks,prev,e::es=>by
  have a:=AAU ks (e::prev) es;simp only[AJ]at a ⊢;simp only[Lv.PZ,PZ,tq,Hb,Function.comp_def,APR,a]
end
end Y
end Lv
