/- The typed machine is right about the light one. -/
import Derived.Test.YtcmjfplpdjflnaaGreatLvEb
noncomputable section
set_option linter.unusedVariables false
set_option linter.unusedSimpArgs false
set_option linter.unusedSectionVars false
open List renaming all_map->Lt,any_map->HA,length_map->Aj,map_cons->AJ,map_drop->CV,map_nil->BW,map_take->Cj
open Nat renaming eq_of_beq_eq_true->Hp,lt_of_lt_of_le->BP,ne_of_beq_eq_false->HW
open Option renaming map_some->An
open Option.some renaming injEq->AD
namespace Lv
open Go (IntKind BinOp UnOp)
structure Bp where
 mk ::
 Kind:Int
 Id:Int
 AY:Int
 Bi:Int
 BA:Int
 Co:Int
abbrev AAv(x:Bp):List T:=[.int .i64 x.Kind,.int .i64 x.Id,.int .i64 x.AY,.int .i64 x.Bi,.int .i64 x.BA,.int .i64 x.Co]
def AS5(x:Bp):Prop:=okI x.Kind/\okI x.Id/\okI x.AY/\okI x.Bi/\okI x.BA/\okI x.Co/\True
structure Aa where
 mk ::
 AW:List Int
 Cb:Int
 Room:Int
 BA:Int
 CG:Int
 B1:Int
 Rest:Int
 Ca:Int
 Cx:Int
abbrev qJ(x:Aa):List T:=[.sl 1 (x.AW.map eN),.int .i64 x.Cb,.int .i64 x.Room,.int .i64 x.BA,.int .i64 x.CG,.int .i64 x.B1,.int .i64 x.Rest,.int .i64 x.Ca,.int .i64 x.Cx]
def ABm(x:Aa):Prop:=(okL okI) x.AW/\okI x.Cb/\okI x.Room/\okI x.BA/\okI x.CG/\okI x.B1/\okI x.Rest/\okI x.Ca/\okI x.Cx/\True
structure AN where
 mk ::
 Id:Int
 AY:Int
 Bi:Int
 BA:Int
 Co:Int
 Since:Int
 Az:Int
 State:Int
 Cq:Int
 DH:Int
abbrev aJ(x:AN):List T:=[.int .i64 x.Id,.int .i64 x.AY,.int .i64 x.Bi,.int .i64 x.BA,.int .i64 x.Co,.int .i64 x.Since,.int .i64 x.Az,.int .i64 x.State,.int .i64 x.Cq,.int .i64 x.DH]
structure BE where
 mk ::
 Total:Int
 Db:Int
 Ee:Int
 FY:Int
 Fx:Int
abbrev AOT(x:BE):List T:=[.int .i64 x.Total,.int .i64 x.Db,.int .i64 x.Ee,.int .i64 x.FY,.int .i64 x.Fx]
structure Af where
 mk ::
 Level:Int
 Az:Int
 Id:Int
 BA:Int
abbrev AIz(x:Af):List T:=[.int .i64 x.Level,.int .i64 x.Az,.int .i64 x.Id,.int .i64 x.BA]
structure BH where
 mk ::
 At:Int
 Id:Int
abbrev AOU(x:BH):List T:=[.int .i64 x.At,.int .i64 x.Id]
structure A0 where
 mk ::
 Ao:List (List BH)
abbrev AV1(x:A0):List T:=[.sl 1 (x.Ao.map (fun l=>[T.sl 2 (l.map AOU)]))]
structure Ab where
 mk ::
 AW:BE
 Row:List Af
 Bq:A0
abbrev aI(x:Ab):List T:=[.int .i64 x.AW.Total,.int .i64 x.AW.Db,.int .i64 x.AW.Ee,.int .i64 x.AW.FY,.int .i64 x.AW.Fx,.sl 4 (x.Row.map AIz),.sl 1 (x.Bq.Ao.map (fun l=>[T.sl 2 (l.map AOU)]))]
structure AE where
 mk ::
 AQ:Aa
 Now:Int
 Az:Int
 AG:List AN
 AH:List Ab
 BF:List Int
 BC:List Int
abbrev AVz(x:AE):List T:=[.sl 1 (x.AQ.AW.map eN),.int .i64 x.AQ.Cb,.int .i64 x.AQ.Room,.int .i64 x.AQ.BA,.int .i64 x.AQ.CG,.int .i64 x.AQ.B1,.int .i64 x.AQ.Rest,.int .i64 x.AQ.Ca,.int .i64 x.AQ.Cx,.int .i64 x.Now,.int .i64 x.Az,.sl 10 (x.AG.map aJ),.sl 7 (x.AH.map aI),.sl 1 (x.BF.map eN),.sl 1 (x.BC.map eN)]
structure Bl where
 mk ::
 Data:List UInt8
 Safe:Int
abbrev AYF(x:Bl):List T:=[.str x.Data,.int .i64 x.Safe]
structure Bk where
 mk ::
 Log:Bl
 EZ:Bl
 Odd:Bl
abbrev AV0(x:Bk):List T:=[.str x.Log.Data,.int .i64 x.Log.Safe,.str x.EZ.Data,.int .i64 x.EZ.Safe,.str x.Odd.Data,.int .i64 x.Odd.Safe]
structure A7 where
 mk ::
 A2:AE
 Bg:Bk
 Seq:Int
 Laid:List Bp
abbrev AOS(x:A7):List T:=[.sl 1 (x.A2.AQ.AW.map eN),.int .i64 x.A2.AQ.Cb,.int .i64 x.A2.AQ.Room,.int .i64 x.A2.AQ.BA,.int .i64 x.A2.AQ.CG,.int .i64 x.A2.AQ.B1,.int .i64 x.A2.AQ.Rest,.int .i64 x.A2.AQ.Ca,.int .i64 x.A2.AQ.Cx,.int .i64 x.A2.Now,.int .i64 x.A2.Az,.sl 10 (x.A2.AG.map aJ),.sl 7 (x.A2.AH.map aI),.sl 1 (x.A2.BF.map eN),.sl 1 (x.A2.BC.map eN),.str x.Bg.Log.Data,.int .i64 x.Bg.Log.Safe,.str x.Bg.EZ.Data,.int .i64 x.Bg.EZ.Safe,.str x.Bg.Odd.Data,.int .i64 x.Bg.Odd.Safe,.int .i64 x.Seq,.sl 6 (x.Laid.map AAv)]
structure Bz where
 mk ::
 Code:Int
 Ids:List Int
abbrev AI0(x:Bz):List T:=[.int .i64 x.Code,.sl 1 (x.Ids.map eN)]
structure Bu where
 mk ::
 Ac:A7
 GL:List Bp
 Cy:List Bz
 G0:Int
abbrev AV2(x:Bu):List T:=[.sl 1 (x.Ac.A2.AQ.AW.map eN),.int .i64 x.Ac.A2.AQ.Cb,.int .i64 x.Ac.A2.AQ.Room,.int .i64 x.Ac.A2.AQ.BA,.int .i64 x.Ac.A2.AQ.CG,.int .i64 x.Ac.A2.AQ.B1,.int .i64 x.Ac.A2.AQ.Rest,.int .i64 x.Ac.A2.AQ.Ca,.int .i64 x.Ac.A2.AQ.Cx,.int .i64 x.Ac.A2.Now,.int .i64 x.Ac.A2.Az,.sl 10 (x.Ac.A2.AG.map aJ),.sl 7 (x.Ac.A2.AH.map aI),.sl 1 (x.Ac.A2.BF.map eN),.sl 1 (x.Ac.A2.BC.map eN),.str x.Ac.Bg.Log.Data,.int .i64 x.Ac.Bg.Log.Safe,.str x.Ac.Bg.EZ.Data,.int .i64 x.Ac.Bg.EZ.Safe,.str x.Ac.Bg.Odd.Data,.int .i64 x.Ac.Bg.Odd.Safe,.int .i64 x.Ac.Seq,.sl 6 (x.Ac.Laid.map AAv),.sl 6 (x.GL.map AAv),.sl 2 (x.Cy.map AI0),.int .i64 x.G0]
structure Cw where
 mk ::
 Kind:Int
 Req:Bp
 N_:Int
 GS:List Int
abbrev AIy(x:Cw):List T:=[.int .i64 x.Kind,.int .i64 x.Req.Kind,.int .i64 x.Req.Id,.int .i64 x.Req.AY,.int .i64 x.Req.Bi,.int .i64 x.Req.BA,.int .i64 x.Req.Co,.int .i64 x.N_,.sl 1 (x.GS.map eN)]
def tO(x:Cw):Prop:=okI x.Kind/\AS5 x.Req/\okI x.N_/\(okL okI) x.GS/\True
structure Bv where
 mk ::
 Seq:Int
 Body:List UInt8
 Next:Int
abbrev AVy(x:Bv):List T:=[.int .i64 x.Seq,.str x.Body,.int .i64 x.Next]
structure DN where
 mk ::
 Rl:List Int
 at_:Int
 vQ:Bool
abbrev AV3(x:DN):List T:=[.sl 1 (x.Rl.map eN),.int .i64 x.at_,.bool x.vQ]
structure PX where
 mk ::
 b_:List UInt8
 i_:Int
 h_:Int
abbrev AV4(x:PX):List T:=[.sl 1 (x.b_.map eBr),.int .i64 x.i_,.int .i64 x.h_]
inductive C where
 |i|u|b|s|m|z|ki(k:IntKind)|l(c:C)|st(n:Nat)|un(n:Nat)
 deriving DecidableEq
def tD:Nat->Type|0=>Bp|1=>Aa|2=>AN|3=>BE|4=>Af|5=>BH|6=>A0|7=>Ab|8=>AE|9=>Bl|10=>Bk|11=>A7|12=>Bz|13=>Bu|14=>Cw|15=>Bv|16=>DN|17=>PX|_=>Unit
def C.D:C->Type|.i=>Int|.u=>UInt8|.b=>Bool|.s=>List UInt8|.m=>List (Int×Int)|.ki _=>Int|.z=>Unit|.l c=>List c.D|.st n=>tD n|.un _=>Unit
def AXi:Nat->Nat|0=>6|1=>9|2=>10|3=>5|4=>4|5=>2|6=>1|7=>7|8=>15|9=>2|10=>6|11=>23|12=>2|13=>26|14=>9|15=>3|16=>3|17=>3|_=>0
def C.size:C->Nat|.st n=>AXi n|.un n=>n|_=>1
inductive U where
 |top|un|int(k:IntKind)(n:Int)|u8(x:UInt8)|bool(b:Bool)|str(s:List UInt8)|nil|np|sl(c:C)(xs:List c.D)|mp(ks:List (Int×Int))
def AZR:(n:Nat)->tD n->List T|0,x=>AAv x|1,x=>qJ x|2,x=>aJ x|3,x=>AOT x|4,x=>AIz x|5,x=>AOU x|6,x=>AV1 x|7,x=>aI x|8,x=>AVz x|9,x=>AYF x|10,x=>AV0 x|11,x=>AOS x|12,x=>AI0 x|13,x=>AV2 x|14,x=>AIy x|15,x=>AVy x|16,x=>AV3 x|17,x=>AV4 x|_+18,_=>[]
def enc:(c:C)->c.D->List T|.i,x=>[.int .i64 x]|.u,x=>[.int .u8 x.toNat]|.b,x=>[.bool x]|.s,x=>[.str x]|.m,x=>[.mp x]|.ki k,x=>[.int k x]|.z,_=>[.nil]|.l c,xs=>[.sl c.size (xs.map (enc c))]|.st n,x=>AZR n x|.un n,_=>List.replicate n .un
abbrev AXI(x:Bp):List U:=[.int .i64 x.Kind,.int .i64 x.Id,.int .i64 x.AY,.int .i64 x.Bi,.int .i64 x.BA,.int .i64 x.Co]
abbrev AF8(x:Aa):List U:=[.sl .i x.AW,.int .i64 x.Cb,.int .i64 x.Room,.int .i64 x.BA,.int .i64 x.CG,.int .i64 x.B1,.int .i64 x.Rest,.int .i64 x.Ca,.int .i64 x.Cx]
abbrev AF6(x:AN):List U:=[.int .i64 x.Id,.int .i64 x.AY,.int .i64 x.Bi,.int .i64 x.BA,.int .i64 x.Co,.int .i64 x.Since,.int .i64 x.Az,.int .i64 x.State,.int .i64 x.Cq,.int .i64 x.DH]
abbrev vW(x:BE):List U:=[.int .i64 x.Total,.int .i64 x.Db,.int .i64 x.Ee,.int .i64 x.FY,.int .i64 x.Fx]
abbrev AF3(x:Af):List U:=[.int .i64 x.Level,.int .i64 x.Az,.int .i64 x.Id,.int .i64 x.BA]
abbrev AXH(x:BH):List U:=[.int .i64 x.At,.int .i64 x.Id]
abbrev AGA(x:A0):List U:=[.sl (.l (.st 5)) x.Ao]
abbrev AF2(x:Ab):List U:=[.int .i64 x.AW.Total,.int .i64 x.AW.Db,.int .i64 x.AW.Ee,.int .i64 x.AW.FY,.int .i64 x.AW.Fx,.sl (.st 4) x.Row,.sl (.l (.st 5)) x.Bq.Ao]
abbrev AF5(x:AE):List U:=[.sl .i x.AQ.AW,.int .i64 x.AQ.Cb,.int .i64 x.AQ.Room,.int .i64 x.AQ.BA,.int .i64 x.AQ.CG,.int .i64 x.AQ.B1,.int .i64 x.AQ.Rest,.int .i64 x.AQ.Ca,.int .i64 x.AQ.Cx,.int .i64 x.Now,.int .i64 x.Az,.sl (.st 2) x.AG,.sl (.st 7) x.AH,.sl .i x.BF,.sl .i x.BC]
abbrev ANa(x:Bl):List U:=[.str x.Data,.int .i64 x.Safe]
abbrev AF9(x:Bk):List U:=[.str x.Log.Data,.int .i64 x.Log.Safe,.str x.EZ.Data,.int .i64 x.EZ.Safe,.str x.Odd.Data,.int .i64 x.Odd.Safe]
abbrev vV(x:A7):List U:=[.sl .i x.A2.AQ.AW,.int .i64 x.A2.AQ.Cb,.int .i64 x.A2.AQ.Room,.int .i64 x.A2.AQ.BA,.int .i64 x.A2.AQ.CG,.int .i64 x.A2.AQ.B1,.int .i64 x.A2.AQ.Rest,.int .i64 x.A2.AQ.Ca,.int .i64 x.A2.AQ.Cx,.int .i64 x.A2.Now,.int .i64 x.A2.Az,.sl (.st 2) x.A2.AG,.sl (.st 7) x.A2.AH,.sl .i x.A2.BF,.sl .i x.A2.BC,.str x.Bg.Log.Data,.int .i64 x.Bg.Log.Safe,.str x.Bg.EZ.Data,.int .i64 x.Bg.EZ.Safe,.str x.Bg.Odd.Data,.int .i64 x.Bg.Odd.Safe,.int .i64 x.Seq,.sl (.st 0) x.Laid]
abbrev AF7(x:Bz):List U:=[.int .i64 x.Code,.sl .i x.Ids]
abbrev AGB(x:Bu):List U:=[.sl .i x.Ac.A2.AQ.AW,.int .i64 x.Ac.A2.AQ.Cb,.int .i64 x.Ac.A2.AQ.Room,.int .i64 x.Ac.A2.AQ.BA,.int .i64 x.Ac.A2.AQ.CG,.int .i64 x.Ac.A2.AQ.B1,.int .i64 x.Ac.A2.AQ.Rest,.int .i64 x.Ac.A2.AQ.Ca,.int .i64 x.Ac.A2.AQ.Cx,.int .i64 x.Ac.A2.Now,.int .i64 x.Ac.A2.Az,.sl (.st 2) x.Ac.A2.AG,.sl (.st 7) x.Ac.A2.AH,.sl .i x.Ac.A2.BF,.sl .i x.Ac.A2.BC,.str x.Ac.Bg.Log.Data,.int .i64 x.Ac.Bg.Log.Safe,.str x.Ac.Bg.EZ.Data,.int .i64 x.Ac.Bg.EZ.Safe,.str x.Ac.Bg.Odd.Data,.int .i64 x.Ac.Bg.Odd.Safe,.int .i64 x.Ac.Seq,.sl (.st 0) x.Ac.Laid,.sl (.st 0) x.GL,.sl (.st 12) x.Cy,.int .i64 x.G0]
abbrev AXG(x:Cw):List U:=[.int .i64 x.Kind,.int .i64 x.Req.Kind,.int .i64 x.Req.Id,.int .i64 x.Req.AY,.int .i64 x.Req.Bi,.int .i64 x.Req.BA,.int .i64 x.Req.Co,.int .i64 x.N_,.sl .i x.GS]
abbrev AF4(x:Bv):List U:=[.int .i64 x.Seq,.str x.Body,.int .i64 x.Next]
abbrev AGC(x:DN):List U:=[.sl .i x.Rl,.int .i64 x.at_,.bool x.vQ]
abbrev AGD(x:PX):List U:=[.sl .u x.b_,.int .i64 x.i_,.int .i64 x.h_]
def AC1:(n:Nat)->tD n->List U|0,x=>AXI x|1,x=>AF8 x|2,x=>AF6 x|3,x=>vW x|4,x=>AF3 x|5,x=>AXH x|6,x=>AGA x|7,x=>AF2 x|8,x=>AF5 x|9,x=>ANa x|10,x=>AF9 x|11,x=>vV x|12,x=>AF7 x|13,x=>AGB x|14,x=>AXG x|15,x=>AF4 x|16,x=>AGC x|17,x=>AGD x|_+18,_=>[]
def cells:(c:C)->c.D->List U|.i,x=>[.int .i64 x]|.u,x=>[.u8 x]|.b,x=>[.bool x]|.s,x=>[.str x]|.m,x=>[.mp x]|.ki k,x=>[.int k x]|.z,_=>[.nil]|.l c,xs=>[.sl c xs]|.st n,x=>AC1 n x|.un n,_=>List.replicate n .un
def toI:U->Option Int|.int .i64 n=>some n|_=>none
def toU:U->Option UInt8|.u8 x=>some x|_=>none
def AW4:U->Option Bool|.bool x=>some x|_=>none
def toN(k:IntKind):U->Option Int|.int k' x=>if k'=k then some x else none|_=>none
def toZ:U->Option Unit|.nil=>some ()|_=>none
def toM:U->Option (List (Int×Int))|.mp x=>some x|_=>none
def toS:U->Option (List UInt8)|.str x=>some x|_=>none
def toL(c:C):U->Option (List c.D)|.sl c' xs=>if h:c'=c then some (h▸xs) else none|_=>none
def gI{α:Type}(us:List U)(K:Int->List U->Option α):Option α:=match us with|u::us=>(toI u).bind fun a=>K a us | []=>none
def gS{α:Type}(us:List U)(K:List UInt8->List U->Option α):Option α:=match us with|u::us=>(toS u).bind fun a=>K a us | []=>none
def gBo{α:Type}(us:List U)(K:Bool->List U->Option α):Option α:=match us with|u::us=>(AW4 u).bind fun a=>K a us | []=>none
def gL{α:Type}(c:C)(us:List U)(K:List c.D->List U->Option α):Option α:=match us with|u::us=>(toL c u).bind fun a=>K a us | []=>none
def gE{α:Type}(us:List U)(a:α):Option α:=match us with | []=>some a|_::_=>none
def AS3(us:List U):Option Bp:=gI us fun a0 us=>gI us fun a1 us=>gI us fun a2 us=>gI us fun a3 us=>gI us fun a4 us=>gI us fun a5 us=>gE us (⟨a0,a1,a2,a3,a4,a5⟩:Bp)
def tH(us:List U):Option Aa:=gL .i us fun a0 us=>gI us fun a1 us=>gI us fun a2 us=>gI us fun a3 us=>gI us fun a4 us=>gI us fun a5 us=>gI us fun a6 us=>gI us fun a7 us=>gI us fun a8 us=>gE us (⟨a0,a1,a2,a3,a4,a5,a6,a7,a8⟩:Aa)
def tF(us:List U):Option AN:=gI us fun a0 us=>gI us fun a1 us=>gI us fun a2 us=>gI us fun a3 us=>gI us fun a4 us=>gI us fun a5 us=>gI us fun a6 us=>gI us fun a7 us=>gI us fun a8 us=>gI us fun a9 us=>gE us (⟨a0,a1,a2,a3,a4,a5,a6,a7,a8,a9⟩:AN)
def jI(us:List U):Option BE:=gI us fun a0 us=>gI us fun a1 us=>gI us fun a2 us=>gI us fun a3 us=>gI us fun a4 us=>gE us (⟨a0,a1,a2,a3,a4⟩:BE)
def s9(us:List U):Option Af:=gI us fun a0 us=>gI us fun a1 us=>gI us fun a2 us=>gI us fun a3 us=>gE us (⟨a0,a1,a2,a3⟩:Af)
def AS1(us:List U):Option BH:=gI us fun a0 us=>gI us fun a1 us=>gE us (⟨a0,a1⟩:BH)
def tJ(us:List U):Option A0:=gL (.l (.st 5)) us fun a0 us=>gE us (⟨a0⟩:A0)
def s8(us:List U):Option Ab:=gI us fun a0 us=>gI us fun a1 us=>gI us fun a2 us=>gI us fun a3 us=>gI us fun a4 us=>gL (.st 4) us fun a5 us=>gL (.l (.st 5)) us fun a6 us=>gE us (⟨⟨a0,a1,a2,a3,a4⟩,a5,⟨a6⟩⟩:Ab)
def tE(us:List U):Option AE:=gL .i us fun a0 us=>gI us fun a1 us=>gI us fun a2 us=>gI us fun a3 us=>gI us fun a4 us=>gI us fun a5 us=>gI us fun a6 us=>gI us fun a7 us=>gI us fun a8 us=>gI us fun a9 us=>gI us fun a10 us=>gL (.st 2) us fun a11 us=>gL (.st 7) us fun a12 us=>gL .i us fun a13 us=>gL .i us fun a14 us=>gE us (⟨⟨a0,a1,a2,a3,a4,a5,a6,a7,a8⟩,a9,a10,a11,a12,a13,a14⟩:AE)
def AEz(us:List U):Option Bl:=gS us fun a0 us=>gI us fun a1 us=>gE us (⟨a0,a1⟩:Bl)
def tI(us:List U):Option Bk:=gS us fun a0 us=>gI us fun a1 us=>gS us fun a2 us=>gI us fun a3 us=>gS us fun a4 us=>gI us fun a5 us=>gE us (⟨⟨a0,a1⟩,⟨a2,a3⟩,⟨a4,a5⟩⟩:Bk)
def jH(us:List U):Option A7:=gL .i us fun a0 us=>gI us fun a1 us=>gI us fun a2 us=>gI us fun a3 us=>gI us fun a4 us=>gI us fun a5 us=>gI us fun a6 us=>gI us fun a7 us=>gI us fun a8 us=>gI us fun a9 us=>gI us fun a10 us=>gL (.st 2) us fun a11 us=>gL (.st 7) us fun a12 us=>gL .i us fun a13 us=>gL .i us fun a14 us=>gS us fun a15 us=>gI us fun a16 us=>gS us fun a17 us=>gI us fun a18 us=>gS us fun a19 us=>gI us fun a20 us=>gI us fun a21 us=>gL (.st 0) us fun a22 us=>gE us (⟨⟨⟨a0,a1,a2,a3,a4,a5,a6,a7,a8⟩,a9,a10,a11,a12,a13,a14⟩,⟨⟨a15,a16⟩,⟨a17,a18⟩,⟨a19,a20⟩⟩,a21,a22⟩:A7)
def tG(us:List U):Option Bz:=gI us fun a0 us=>gL .i us fun a1 us=>gE us (⟨a0,a1⟩:Bz)
def tK(us:List U):Option Bu:=gL .i us fun a0 us=>gI us fun a1 us=>gI us fun a2 us=>gI us fun a3 us=>gI us fun a4 us=>gI us fun a5 us=>gI us fun a6 us=>gI us fun a7 us=>gI us fun a8 us=>gI us fun a9 us=>gI us fun a10 us=>gL (.st 2) us fun a11 us=>gL (.st 7) us fun a12 us=>gL .i us fun a13 us=>gL .i us fun a14 us=>gS us fun a15 us=>gI us fun a16 us=>gS us fun a17 us=>gI us fun a18 us=>gS us fun a19 us=>gI us fun a20 us=>gI us fun a21 us=>gL (.st 0) us fun a22 us=>gL (.st 0) us fun a23 us=>gL (.st 12) us fun a24 us=>gI us fun a25 us=>gE us (⟨⟨⟨⟨a0,a1,a2,a3,a4,a5,a6,a7,a8⟩,a9,a10,a11,a12,a13,a14⟩,⟨⟨a15,a16⟩,⟨a17,a18⟩,⟨a19,a20⟩⟩,a21,a22⟩,a23,a24,a25⟩:Bu)
def ASz(us:List U):Option Cw:=gI us fun a0 us=>gI us fun a1 us=>gI us fun a2 us=>gI us fun a3 us=>gI us fun a4 us=>gI us fun a5 us=>gI us fun a6 us=>gI us fun a7 us=>gL .i us fun a8 us=>gE us (⟨a0,⟨a1,a2,a3,a4,a5,a6⟩,a7,a8⟩:Cw)
def tC(us:List U):Option Bv:=gI us fun a0 us=>gS us fun a1 us=>gI us fun a2 us=>gE us (⟨a0,a1,a2⟩:Bv)
def tL(us:List U):Option DN:=gL .i us fun a0 us=>gI us fun a1 us=>gBo us fun a2 us=>gE us (⟨a0,a1,a2⟩:DN)
def tM(us:List U):Option PX:=gL .u us fun a0 us=>gI us fun a1 us=>gI us fun a2 us=>gE us (⟨a0,a1,a2⟩:PX)
def ofS:(n:Nat)->List U->Option (tD n)|0,us=>AS3 us|1,us=>tH us|2,us=>tF us|3,us=>jI us|4,us=>s9 us|5,us=>AS1 us|6,us=>tJ us|7,us=>s8 us|8,us=>tE us|9,us=>AEz us|10,us=>tI us|11,us=>jH us|12,us=>tG us|13,us=>tK us|14,us=>ASz us|15,us=>tC us|16,us=>tL us|17,us=>tM us|_+18,_=>none
def MI:Nat->List U->Option Unit|0,[]=>some ()|n+1,.un::us=>MI n us|_,_=>none
def of1{α:Type}(us:List U)(f:U->Option α):Option α:=match us with | [u]=>f u|_=>none
def ofC:(c:C)->List U->Option c.D|.i,us=>of1 us toI|.u,us=>of1 us toU|.b,us=>of1 us AW4|.s,us=>of1 us toS|.m,us=>of1 us toM|.ki k,us=>of1 us (toN k)|.z,us=>of1 us toZ|.l c,us=>of1 us (toL c)|.st n,us=>ofS n us|.un n,us=>MI n us
def AXo:(n:Nat)->Option (tD n)|0=>some (⟨0,0,0,0,0,0⟩:Bp)|1=>some (⟨[],0,0,0,0,0,0,0,0⟩:Aa)|2=>some (⟨0,0,0,0,0,0,0,0,0,0⟩:AN)|3=>some (⟨0,0,0,0,0⟩:BE)|4=>some (⟨0,0,0,0⟩:Af)|5=>some (⟨0,0⟩:BH)|6=>some (⟨[]⟩:A0)|7=>some (⟨⟨0,0,0,0,0⟩,[],⟨[]⟩⟩:Ab)|8=>some (⟨⟨[],0,0,0,0,0,0,0,0⟩,0,0,[],[],[],[]⟩:AE)|9=>some (⟨[],0⟩:Bl)|10=>some (⟨⟨[],0⟩,⟨[],0⟩,⟨[],0⟩⟩:Bk)|11=>some (⟨⟨⟨[],0,0,0,0,0,0,0,0⟩,0,0,[],[],[],[]⟩,⟨⟨[],0⟩,⟨[],0⟩,⟨[],0⟩⟩,0,[]⟩:A7)|12=>some (⟨0,[]⟩:Bz)|13=>some (⟨⟨⟨⟨[],0,0,0,0,0,0,0,0⟩,0,0,[],[],[],[]⟩,⟨⟨[],0⟩,⟨[],0⟩,⟨[],0⟩⟩,0,[]⟩,[],[],0⟩:Bu)|14=>some (⟨0,⟨0,0,0,0,0,0⟩,0,[]⟩:Cw)|15=>some (⟨0,[],0⟩:Bv)|16=>some (⟨[],0,false⟩:DN)|17=>some (⟨[],0,0⟩:PX)|_+18=>none
def ACr:(c:C)->Option c.D|.i=>some (0:Int)|.u=>some (0:UInt8)|.b=>some false|.s=>some ([]:List UInt8)|.m=>some ([]:List (Int×Int))|.ki _=>some (0:Int)|.z=>none|.l c=>some ([]:List c.D)|.st n=>AXo n|.un _=>none
def U.fg:U->T|.top=>.top|.un=>.un|.int k n=>.int k n|.u8 x=>.int .u8 x.toNat|.bool b=>.bool b|.str s=>.str s|.nil=>.nil|.np=>.np|.mp ks=>.mp ks|.sl c xs=>.sl c.size (xs.map (enc c))
def Tu:List C->Type| []=>Unit| [c]=>c.D|c::c'::cs=>c.D×Tu (c'::cs)
def Pl:(cs:List C)->Tu cs->List (List T)| [],_=>[]| [c],x=>[enc c x]|c::c'::cs,x=>enc c x.1::Pl (c'::cs) x.2
def ofT:(cs:List C)->List U->Option (Tu cs)
 | [],us=>match us with | []=>some ()|_=>none
 | [c],us=>ofC c us|c::c'::cs,us=>match ofC c (us.take c.size),ofT (c'::cs) (us.drop c.size) with|some a,some b=>some (a,b)|_,_=>none
inductive PK where
 |v(c:C)|p(c:C)|b(c:C)|o(c:C)|m(c:C)|f(x:CF)(caps:List (Bool×C))
def PK.md:PK->Md|.v _=>.v|.p _=>.p|.b _=>.b|.o _=>.o|.m _=>.m|.f _ _=>.v
def shC:C->Sh|.st _=>.agg|.un _=>.agg|_=>.one
def wC:C->Option Nat|.st n=>some (AXi n)|.un n=>some n|_=>none
def oe:List (Bool×C)->Type| []=>Unit|(_,c)::r=>c.D×oe r
def PK.D:PK->Type|.v c=>c.D|.p c=>c.D|.b c=>c.D|.o c=>c.D|.m c=>c.D|.f _ caps=>oe caps
def A:List PK->Type| []=>Unit|k::ks=>k.D×A ks
def Qv:(l:List (Bool×C))->oe l->List V| [],_=>[]|(false,c)::r,x=>.v .one (enc c x.1)::Qv r x.2|(true,c)::r,x=>.p (enc c x.1)::Qv r x.2
def PK.V:(k:PK)->k.D->V|.v c,x=>.v (shC c) (enc c x)|.p c,x=>.p (enc c x)|.b c,x=>.b (enc c x)|.o c,x=>.o (shC c) (enc c x)|.m c,x=>.m (shC c) (enc c x)|.f x caps,y=>.f x (Qv caps y)
def aVs:(ks:List PK)->A ks->List V| [],_=>[]|k::ks,x=>k.V x.1::aVs ks x.2
def Kw:List PK->List C| []=>[]|.b c::r=>c::Kw r|.m c::r=>c::Kw r|_::r=>Kw r
def fX:List PK->List CF| []=>[]|.f x _::r=>x::fX r|_::r=>fX r
inductive RK where
 |ret(cs:List C)|ptr(k:Nat)(c:C)|vw(k:Nat)(c:C)
def RK.cs:RK->List C|.ret cs=>cs|.ptr _ c=>[c]|.vw _ c=>[.l c]
def RK.sh:RK->Sh|.ret cs=>ACP (cs.map wC)|.ptr k _=>.ptr k|.vw k _=>.vw k
structure GF where
 x:CF
 ps:List PK
 rk:RK
 d:A ps->Option (Tu (rk.cs++Kw ps))
 ms:EJ x=ps.map PK.md
 ok:∀a r,d a=some r->I8 x (aVs ps a) rk.sh ((Pl _ r).take rk.cs.length).flatten ((Pl _ r).drop rk.cs.length)
structure Evs where
 bd:(α γ:Type)->Option α->(α->Option γ)->Option γ
 lp:(σ γ:Type)->((σ->Option γ)->σ->Option γ)->Nat->σ->Option γ
 jn:(σ γ:Type)->(σ->Option γ)->σ->Option γ
 eq:(α γ:Type)->α->α->Option γ->Option γ
 al:(γ:Type)->(Option γ->Option γ)->Option γ->Option γ
 ox:(γ:Type)->Option γ->Option γ->Option γ
def AJV{σ γ:Type}(F:(σ->Option γ)->σ->Option γ):Nat->σ->Option γ|0,_=>none|n+1,x=>F (AJV F n) x
open Classical in
def Evs.std:Evs where
 bd _ _ o f:=o.bind f
 lp _ _ F n x:=AJV F n x
 jn _ _ F x:=F x
 eq _ _ a b x:=if a=b then x else none
 al _ F x:=F x
 ox _ x y:=match x with|some r=>some r|none=>y
def evX:Evs:=Classical.choose (p:=fun E=>E=Evs.std) ⟨_,rfl⟩
theorem Nd:evX=Evs.std:=Classical.choose_spec (p:=fun E=>E=Evs.std) ⟨_,rfl⟩
section
def orX{γ:Type}(x y:Option γ):Option γ:=evX.ox γ x y
def br{γ:Type}(b:Bool)(x y:Option γ):Option γ:=if b=true then x else y
def gd{γ:Type}(p:Prop)[i:Decidable p](x:Option γ):Option γ:=if p then x else none
def bd{α γ:Type}(o:Option α)(f:α->Option γ):Option γ:=evX.bd α γ o f
def A3{σ γ:Type}(F:(σ->Option γ)->σ->Option γ)(n:Nat)(x:σ):Option γ:=evX.lp σ γ F n x
def jn{σ γ:Type}(F:σ->Option γ)(x:σ):Option γ:=evX.jn σ γ F x
def eqv{α γ:Type}(a b:α)(x:Option γ):Option γ:=evX.eq α γ a b x
def alt{γ:Type}(F:Option γ->Option γ)(x:Option γ):Option γ:=evX.al γ F x
end
theorem AXf{γ:Type}(y:Option γ):orX none y=y:=by unfold orX;rw[Nd];rfl
theorem AXg{γ:Type}(r:γ)(y:Option γ):orX (some r) y=some r:=by unfold orX;rw[Nd];rfl
theorem AYl{γ:Type}{x y:Option γ}{r:γ}(h:orX x y=some r):x=some r\/y=some r:=by
 cases x with
 |none=>rw[AXf]at h;exact .inr h|some q=>rw[AXg]at h;exact .inl h
theorem AX3{γ:Type}(b:Bool)(x y:Option γ):br b x y=if b=true then x else y:=rfl
theorem AOj{γ:Type}(p:Prop) [Decidable p] (x:Option γ):gd p x=if p then x else none:=rfl
theorem ACx{α γ:Type}(o:Option α)(f:α->Option γ):bd o f=o.bind f:=by unfold bd;rw[Nd];rfl
theorem ASf{σ γ:Type}(F:σ->Option γ)(x:σ):jn F x=F x:=by unfold jn;rw[Nd];rfl
theorem AFv{γ:Type}(F:Option γ->Option γ)(x:Option γ):alt F x=F x:=by unfold alt;rw[Nd];rfl
open Classical in
theorem AI6{α γ:Type}(a b:α)(x:Option γ):eqv a b x=if a=b then x else none:=by unfold eqv;rw[Nd];rfl
theorem Ce{α γ:Type}(a:α)(x:Option γ):eqv a a x=x:=by rw[AI6,AX rfl]
theorem RO{α γ:Type}{a b:α}{x:Option γ}{r:γ}(h:eqv a b x=some r):a=b/\x=some r:=by
 grind[AI6]
theorem AJX{σ γ:Type}(F:(σ->Option γ)->σ->Option γ)(x:σ):A3 F 0 x=none:=by unfold A3;rw[Nd];rfl
theorem Dh{σ γ:Type}(F:(σ->Option γ)->σ->Option γ)(n:Nat)(x:σ):A3 F (n+1) x=F (A3 F n) x:=by
 have:∀m y,A3 F m y=AJV F m y:=fun m y=>by unfold A3;rw[Nd];rfl
 rw[this];show F (AJV F n) x=_;congr 1;funext y;exact(this n y).symm
inductive Cap where
 |t(x:U)|vw(k:Nat)(c:C)(xs:List c.D)|vp(k:Nat)(cs:List U)|bp(id off:Nat)
namespace Y
def mem(k:Nat):List Nat->Bool
 | []=>false|x::xs=>match Nat.beq k x with|true=>true|false=>mem k xs
def CE.is:CE->CE->Bool
 |.tmp s c,.tmp s' c'=>match Nat.beq s s' with|true=>Nat.beq c c'|false=>false
 |.cell s c,.cell s' c'=>match Nat.beq s s' with|true=>Nat.beq c c'|false=>false
 |_,_=>false
def isR(o:Option CE)(r:CE):Bool:=match o with|some r'=>CE.is r' r|none=>false
def isN(o:Option Nat)(r:Nat):Bool:=match o with|some r'=>Nat.beq r' r|none=>false
def get{α:Type}:List (Nat×α)->Nat->Option α
 | [],_=>none|(k,a)::r,s=>match Nat.beq k s with|true=>some a|false=>get r s
def put{α:Type}:List (Nat×α)->Nat->α->List (Nat×α)
 | [],s,a=>[(s,a)]|(k,b)::r,s,a=>match Nat.beq s k with
  |true=>(s,a)::r|false=>match Nat.ble s k with|true=>(s,a)::(k,b)::r|false=>(k,b)::put r s a
def JD{α:Type}(ks:List Nat):List (Nat×α)->List (Nat×α)
 | []=>[]|(k,b)::r=>match mem k ks with|true=>JD ks r|false=>(k,b)::JD ks r
def GC{α:Type}(ks:List Nat):List (Nat×α)->List (Nat×α)
 | []=>[]|(k,b)::r=>match mem k ks with|true=>(k,b)::GC ks r|false=>GC ks r
inductive AS where
 |t(x:U)|und|ow(x:U)|owh(c:C)(xs:List c.D)(hs:List (Nat×Nat))|al(r:CE)(sub:Option (Nat×Nat))|ep(r:CE)(i:Int)(j:Nat)|vw(s:Src)(c:C)(xs:List c.D)|vp(s:Src)(cs:List U)|bp(id off:Nat)|fn(n:Nat)(caps:List Cap)
structure Ent where
 sh:Sh
 cs:List AS
 ver:Nat
structure Bx where
 cs:List AS
 ver:Nat
structure St where
 tm:List (Nat×Ent)
 bx:List (Nat×Bx)
 pin:List Nat
 nv:Nat
section
variable{γ:Type}
def DG(n:Nat)(K:Nat->γ):γ:=match n with|0=>K 0|k+1=>K (k+1)
def _root_.Lv.U.FV(x:U)(K:U->γ):γ:=
 match x with
 |.top=>K .top|.int k n=>K (.int k n)|.u8 x=>K (.u8 x)|.bool b=>K (.bool b)|.str s=>K (.str s)|.nil=>K .nil|.np=>K .np|.un=>K .un|.sl c xs=>K (.sl c xs)|.mp ks=>K (.mp ks)
def aN:List U->(List U->γ)->γ| [],K=>K []|x::xs,K=>x.FV fun x=>aN xs fun xs=>K (x::xs)
def gy(r:CE)(K:CE->γ):γ:=
 match r with
 |.tmp s c=>DG s fun s=>DG c fun c=>K (.tmp s c)|.cell s c=>DG s fun s=>DG c fun c=>K (.cell s c)
def RQ(s:Src)(K:Src->γ):γ:=
 match s with
 |.own r p=>gy r fun r=>match p with|none=>K (.own r none)|some (i,j)=>DG j fun j=>K (.own r (some (i,j)))
 |.old k=>DG k fun k=>K (.old k)
def AS.FV(l:AS)(K:AS->γ):γ:=
 match l with
 |.t x=>x.FV fun x=>K (.t x)|.und=>K .und|.ow x=>x.FV fun x=>K (.ow x)|.owh c xs hs=>K (.owh c xs hs)|.al r sub=>gy r fun r=>match sub with|none=>K (.al r none)|some (a,b)=>K (.al r (some (a,b)))
 |.ep r i j=>gy r fun r=>DG j fun j=>K (.ep r i j)|.vw s c xs=>RQ s fun s=>K (.vw s c xs)|.vp s cs=>RQ s fun s=>aN cs fun cs=>K (.vp s cs)|.bp id off=>DG id fun id=>DG off fun off=>K (.bp id off)|.fn n caps=>K (.fn n caps)
def SZ:List AS->(List AS->γ)->γ| [],K=>K []|x::xs,K=>x.FV fun x=>SZ xs fun xs=>K (x::xs)
def Sa:List (Option Nat)->(List (Option Nat)->γ)->γ| [],K=>K []|none::xs,K=>Sa xs fun xs=>K (none::xs)|some n::xs,K=>DG n fun n=>Sa xs fun xs=>K (some n::xs)
def aM(s:Sh)(K:Sh->γ):γ:=
 match s with
 |.one=>K .one|.agg=>K .agg|.tup ns=>Sa ns fun ns=>K (.tup ns)|.ptr k=>K (.ptr k)|.vw k=>K (.vw k)
def qS:List (Nat×Ent)->(List (Nat×Ent)->γ)->γ| [],K=>K []|(k,⟨sh,cs,v⟩)::xs,K=>aM sh fun sh=>SZ cs fun cs=>DG v fun v=>qS xs fun xs=>K ((k,⟨sh,cs,v⟩)::xs)
def qR:List (Nat×Bx)->(List (Nat×Bx)->γ)->γ| [],K=>K []|(k,⟨cs,v⟩)::xs,K=>SZ cs fun cs=>DG v fun v=>qR xs fun xs=>K ((k,⟨cs,v⟩)::xs)
def qT:List Nat->(List Nat->γ)->γ| [],K=>K []|x::xs,K=>qT xs fun xs=>K (x::xs)
def St.FV(S:St)(K:St->γ):γ:=
 match S with
 |⟨tm,bx,pin,nv⟩=>qS tm fun tm=>qR bx fun bx=>qT pin fun pin=>DG nv fun nv=>K ⟨tm,bx,pin,nv⟩
end
structure En where
 sh:Sh
 cs:List AS
def AS.By:AS->Option CE|.al r _=>some r|.ep r _ _=>some r|.vw (.own r _) _ _=>some r|.vp (.own r _) _=>some r|_=>none
def _root_.Lv.Cap.LF:Cap->Option Nat|.bp id _=>some id|_=>none
def AS.LF:AS->Option Nat|.bp id _=>some id|.al (.cell id _) _=>some id|.ep (.cell id _) _ _=>some id|.vw (.own (.cell id _) _) _ _=>some id|.vp (.own (.cell id _) _) _=>some id|_=>none
def AS.AX5:AS->Option Cap|.t x=>some (.t x)|.vw (.old k) c xs=>some (.vw k c xs)|.vp (.old k) cs=>some (.vp k cs)|.bp id off=>some (.bp id off)|_=>none
def _root_.Lv.Cap.leaf:Cap->AS|.t x=>.t x|.vw k c xs=>.vw (.old k) c xs|.vp k cs=>.vp (.old k) cs|.bp id off=>.bp id off
def names:AS->List Nat|.bp id _=>[id]|.fn _ caps=>caps.filterMap Lv.Cap.LF|_=>[]
def EA(q:AS->Bool):List AS->List AS| []=>[]|l::ls=>(if q l=true then .t .top else l)::EA q ls
def Kc(v:Nat)(q:AS->Bool):List (Nat×Ent)->List (Nat×Ent)| []=>[]|(k,e)::r=>(k,if e.cs.any q=true then ⟨e.sh,EA q e.cs,v⟩ else e)::Kc v q r
def Kb(v:Nat)(q:AS->Bool):List (Nat×Bx)->List (Nat×Bx)| []=>[]|(k,e)::r=>(k,if e.cs.any q=true then ⟨EA q e.cs,v⟩ else e)::Kb v q r
def St.kill(S:St)(q:AS->Bool):St:=⟨Kc S.nv q S.tm,Kb S.nv q S.bx,S.pin,S.nv+1⟩
def St.JX(S:St)(d:Nat)(sh:Sh)(cs:List AS):St:=⟨put S.tm d ⟨sh,cs,S.nv⟩,S.bx,S.pin,S.nv+1⟩
def St.NT(S:St)(d:Nat)(cs:List AS):St:=⟨S.tm,put S.bx d ⟨cs,S.nv⟩,S.pin,S.nv+1⟩
def Kv(r:CE)(l:AS):Bool:=isR l.By r
def E5(r:CE):AS->Bool|.vw (.own r' _) _ _=>CE.is r' r|.vp (.own r' _) _=>CE.is r' r|_=>false
def Ec(d:Nat)(l:AS):Bool:=match l.By with|some (.tmp s _)=>Nat.beq s d|_=>false
def FO(d:Nat):AS->Bool|.fn _ caps=>caps.any fun l=>isN l.LF d|l=>isN l.LF d
def Ku(ks:List Nat):AS->Bool
 |.fn _ caps=>caps.any fun l=>match l.LF with|some d=>!mem d ks|none=>false
 |l=>match l.LF with|some d=>!mem d ks|none=>false
def IC(ks:List Nat)(l:AS):Bool:=
 (match l.By with|some (.tmp s _)=>!mem s ks|_=>false)||Ku ks l
def YG(ks:List Nat)(l:AS):Bool:=match l.By with|some (.tmp s _)=>mem s ks|_=>false
def St.Hq(S:St)(ks:List Nat):St:=⟨Kc S.nv (YG ks) (JD ks S.tm),Kb S.nv (YG ks) S.bx,S.pin,S.nv+1⟩
def St.clean(S:St)(ks:List Nat):St:=⟨Kc S.nv (IC ks) (GC ks S.tm),Kb S.nv (IC ks) (GC ks S.bx),S.pin,S.nv+1⟩
def AS.refs(l:AS):List Nat:=(match l.By with|some (.tmp s _)=>[s]|some (.cell b _)=>[b]|none=>[])++names l
def AUX(ks:List Nat):List (Nat×Ent)->List Nat
 | []=>[]|(k,e)::r=>match mem k ks with|true=>e.cs.flatMap AS.refs++AUX ks r|false=>AUX ks r
def AUW(ks:List Nat):List (Nat×Bx)->List Nat
 | []=>[]|(k,e)::r=>match mem k ks with|true=>e.cs.flatMap AS.refs++AUW ks r|false=>AUW ks r
def St.clo(S:St):Nat->List Nat->List Nat
 |0,ks=>ks|n+1,ks=>match (AUX ks S.tm++AUW ks S.bx).filter (fun k=>!mem k ks) with| []=>ks|more=>S.clo n (ks++more)
def St.pJ(S:St)(ks:List Nat):St:=S.clean (S.clo 6 (S.pin++ks))
def St.at(S:St):CE->Option AS
 |.tmp s c=>match get S.tm s with|some e=>e.cs[c]?|none=>none
 |.cell b c=>match get S.bx b with|some ls=>ls.cs[c]?|none=>none
def St.Bf(S:St)(r:CE)(l:AS):St:=
 match r with
 |.tmp s c=>match get S.tm s with|some e=>S.JX s e.sh (e.cs.set c l)|none=>S
 |.cell b c=>match get S.bx b with|some ls=>S.NT b (ls.cs.set c l)|none=>S
inductive Rw where
 |nl|of(c:C)(xs:List c.D)
def content:U->Option Rw|.nil=>some .nl|.sl c xs=>some (.of c xs)|_=>none
def kE{α:Type}(sub:Option (Nat×Nat))(xs:List α):List α:=
 match sub with
 |none=>xs|some (lo,n)=>(xs.drop lo).take n
def Rw.sub(sub:Option (Nat×Nat)):Rw->Rw|.nl=>.nl|.of c xs=>.of c (kE sub xs)
def Rw.as(c:C):Rw->Option (List c.D)|.nl=>some []|.of c' xs=>if h:c'=c then some (h▸xs) else none
def AFl(sub:Option (Nat×Nat)):U->U|.sl c xs=>.sl c (kE sub xs)|x=>x
def St.elems(S:St):AS->Option Rw
 |.al r sub=>match S.at r with
  |some (.ow x)=>match content x with|some w=>some (w.sub sub)|none=>none
  |_=>none
 |.vw _ c xs=>some (.of c xs)|.t .nil=>some .nl|_=>none
def AS.ali(s c:Nat):AS->AS|.ow _=>.al (.tmp s c) none|.owh _ _ _=>.al (.tmp s c) none|l=>l
def Qq(s:Nat):Nat->List AS->List AS|_,[]=>[]|c,l::ls=>l.ali s c::Qq s (c+1) ls
def nX:U->AS|.sl c xs=>.vw (.old 0) c xs|x=>.t x
inductive YO where
 |tmp(t:Nat)|k(x:U)|fn(n:Nat)
def St.rd(S:St):YO->Option En
 |.tmp s=>match get S.tm s with|some e=>some ⟨e.sh,Qq s 0 e.cs⟩|none=>none
 |.k x=>some ⟨.one,[nX x]⟩|.fn n=>some ⟨.one,[.fn n []]⟩
def St.rds(S:St):List YO->Option (List En)
 | []=>some []|x::xs=>match S.rd x,S.rds xs with|some e,some es=>some (e::es)|_,_=>none
def St.Ds(S:St)(d:Nat)(sh:Sh)(cs:List AS):Option St:=
 match mem d S.pin with|true=>none|false=>match get S.tm d with|none=>some (S.JX d sh cs)|some _=>some ((S.kill (Ec d)).JX d sh (EA (Ec d) cs))
def R0(l l':AS):Bool:=
 (match l.By with|some r=>isR l'.By r|none=>false)||(names l).any (fun id=>FO id l')||(names l').any (fun id=>FO id l)
def QM(l l':AS):Bool:=
 (match l.By with|some r=>isR l'.By r|none=>false)||(names l).any (fun id=>FO id l')
def sg:AS->Bool|.al _ _=>true|_=>false
def NQ:List AS->Bool
 | []=>true|l::ls=>(ls.all fun l'=>!((sg l||sg l')&&(match l.By with|some r=>isR l'.By r|none=>l'.By.isNone)))&&NQ ls
def St.out(S:St)(r:CE):St:=(S.Bf r (.t .top)).kill (Kv r)
def St.nl0(S:St)(r:CE)(c:C):AS:=match r with|.cell id _=>(match mem id S.pin with|true=>.vw (.old id) c []|false=>.ow (.sl c []))|.tmp _ _=>.ow (.sl c [])
def St.turn(S:St)(r:CE):St:=match S.at r with
 |some (.al r' none)=>match S.at r' with|some (.ow x)=>((S.out r').Bf r (.ow x)).Bf r' (.al r none)|some (.owh c xs hs)=>((S.out r').Bf r (.owh c xs hs)).Bf r' (.al r none)|_=>S
 |_=>S
def St.YX(S:St)(r:CE)(c:C):St:=match Nat.beq c.size 0 with
 |true=>S.turn r|false=>match S.at r with|some (.t .nil)=>S.Bf r (S.nl0 r c)|_=>S
def St.QC(S:St):List (CE×C)->St| []=>S|(r,c)::ns=>St.QC (S.YX r c) ns
def JL:St->List AS->Option (St×List AS)
 |S,[]=>some (S,[])|S,l::ls=>match l with
  |.al r sub=>match S.at r with
   |some (.ow x)=>match JL (S.out r) ls with|some (S',ls')=>some (S',.ow (AFl sub x)::ls')|none=>none
   |_=>none
  |l=>match JL S ls with|some (S',ls')=>some (S',l::ls')|none=>none
def Kf(S:St)(ls:List AS):Option (St×List AS):=if NQ ls=true then JL S ls else none
def pF(S:St)(x:YO)(ls:List AS):Option (St×List AS):=match x with|.tmp s=>(match mem s S.pin with|true=>some (S,ls)|false=>Kf S ls)|_=>Kf S ls
def Qf:U->Bool|.top=>true|_=>false
def YK:U->Bool|.top=>true|.un=>true|_=>false
def St.pull(S:St)(r:CE)(i j:Nat):Option St:=
 match S.at r with
 |some (.ow (.sl c xs))=>some ((S.Bf r (.owh c xs [(i,j)])).kill (E5 r))|some (.owh c xs hs)=>some ((S.Bf r (.owh c xs (hs++[(i,j)]))).kill (E5 r))|_=>none
def onR(r:CE):List AS->Bool| []=>false|l::ls=>isR l.By r||onR r ls
def DX:St->List AS->Option (St×List U)
 |S,[]=>some (S,[])|S,l::ls=>match l with
  |.t x=>if Qf x=true then none else match DX S ls with|some (S',cs)=>some (S',x::cs)|none=>none
  |.al r sub=>match S.at r with
   |some (.ow x)=>match DX (S.out r) ls with|some (S',cs)=>some (S',AFl sub x::cs)|none=>none
   |_=>none
  |.vw (.own r p) c xs=>match p with
   |none=>match S.at r with
    |some (.ow _)=>match DX (S.out r) ls with|some (S',cs)=>some (S',.sl c xs::cs)|none=>none
    |_=>none
   |some (i,j)=>if onR r ls=true then none else match S.pull r i j with
    |some S1=>match DX S1 ls with|some (S',cs)=>some (S',.sl c xs::cs)|none=>none
    |none=>none
  |_=>none
def St.G5(S:St):AS->Option U
 |.t x=>some x|.al r sub=>match S.at r with|some (.ow x)=>some (AFl sub x)|_=>none
 |.vw _ c xs=>some (.sl c xs)|.ow x=>some x|_=>none
def St.Gz(S:St):List AS->Option (List U)
 | []=>some []|l::ls=>match S.G5 l,S.Gz ls with|some x,some xs=>some (x::xs)|_,_=>none
def OP(k:Nat):AS->Option U|.t x=>some x|.vw (.old k') c xs=>if k'=k then some (.sl c xs) else none|_=>none
def FI(k:Nat):List AS->Option (List U)
 | []=>some []|l::ls=>match OP k l,FI k ls with|some x,some xs=>some (x::xs)|_,_=>none
def DL:List AS->Nat| []=>0|.vw (.old k) _ _::_=>k|_::ls=>DL ls
def D6(k:Nat):U->AS|.sl c xs=>.vw (.old k) c xs|.mp _=>.t .top|x=>.t x
def JJ:U->AS|.sl c xs=>.ow (.sl c xs)|.mp ks=>.ow (.mp ks)|.nil=>.ow .nil|x=>.t x
def J8(s:Src):U->AS|.sl c xs=>.vw s c xs|.mp _=>.t .top|x=>.t x
def Np:List AS->Bool| []=>true|l::ls=>l.By.isNone&&Np ls
def QH:AS->Bool|.t _=>true|.al _ none=>true|.vw (.own _ (some _)) _ _=>true|_=>false
def AX6(S:St):Bool->Cap->Option (List U)
 |false,.t x=>some [x]|false,.vw _ c xs=>some [.sl c xs]|true,.bp id off=>match get S.bx id with|some ls=>if Np ls.cs=true then S.Gz (ls.cs.drop off) else none|none=>none
 |true,.vp _ cs=>some cs|_,_=>none
def AGG(S:St):(l:List (Bool×C))->List Cap->Option (oe l)
 | [],[]=>some ()|(m,c)::r,l::ls=>match AX6 S m l with
  |some us=>match ofC c us,AGG S r ls with|some x,some y=>some (x,y)|_,_=>none
  |none=>none
 |_,_=>none
section
variable(R:List GF)
def AXx(S:St)(c:C)(e:En):Option c.D:=match S.Gz e.cs with|some us=>ofC c us|none=>none
def AXv(S:St)(fs:List Nat)(l:List (Bool×C))(e:En):Option (oe l):=
 match e with
 |⟨.one,[.fn n caps]⟩=>match fs with|n'::_=>if n'=n then AGG S l caps else none| []=>none
 |_=>none
def AXw(S:St)(c:C)(e:En):Option c.D:=
 match e with
 |⟨.one,[.bp id off]⟩=>match get S.bx id with
  |some ls=>if Np ls.cs=true then match S.Gz (ls.cs.drop off) with|some us=>ofC c us|none=>none else none
  |none=>none
 |⟨.one,[.vp _ cs]⟩=>ofC c cs|_=>none
def AXu(S:St)(c:C)(e:En):Option c.D:=
 match e with
 |⟨.one,[.bp id 0]⟩=>match get S.bx id with
  |some ls=>match FI (DL ls.cs) ls.cs with|some us=>ofC c us|none=>none
  |none=>none
 |_=>none
def PK.Ed:PK->Bool|.o _=>true|.m _=>true|_=>false
def PK.writes:PK->Bool|.b _=>true|.o _=>true|.m _=>true|_=>false
def G4:List PK->List En->List AS|k::ks,e::es=>(if PK.Ed k=true then e.cs else [])++G4 ks es|_,_=>[]
def AMr:Sh->Sh->Bool|.one,.one=>true|.agg,.agg=>true|_,_=>false
def Ia(S:St):List Nat->(ks:List PK)->List En->List U->Option (A ks)
 |_,[],[],_=>some ()|fs,k::ks,e::es,us=>match k with
  |.o c=>if AMr e.sh (shC c)=true then match ofC c (us.take e.cs.length),Ia S fs ks es (us.drop e.cs.length) with|some x,some y=>some (x,y)|_,_=>none else none
  |.m c=>if AMr e.sh (shC c)=true/\e.cs.all QH=true/\Fp e.sh e.cs.length=true then match ofC c (us.take e.cs.length),Ia S fs ks es (us.drop e.cs.length) with|some x,some y=>some (x,y)|_,_=>none else none
  |.f x l=>match AXv S fs l e,Ia S fs.tail ks es us with|some x,some y=>some (x,y)|_,_=>none
  |.v c=>if AMr e.sh (shC c)=true then match AXx S c e,Ia S fs ks es us with|some x,some y=>some (x,y)|_,_=>none else none
  |.p c=>match AXw S c e,Ia S fs ks es us with|some x,some y=>some (x,y)|_,_=>none
  |.b c=>match AXu S c e,Ia S fs ks es us with|some x,some y=>some (x,y)|_,_=>none
 |_,_,_,_=>none
def EM:St->List PK->List En->St
 |S,k::ks,e::es=>match k with
  |.b _=>match e with
   |⟨.one,[.bp id 0]⟩=>match get S.bx id with|some ls=>EM (S.NT id (ls.cs.map fun _=>.t .top)) ks es|none=>EM S ks es
   |_=>EM S ks es
  |_=>EM S ks es
 |S,_,_=>S
def UW(S:St)(fs:List Nat)(ks:List PK)(es:List En):Option (St×A ks):=
 match DX S (G4 ks es) with
 |some (S1,us)=>match Ia S fs ks es us with|some a=>some (EM S1 ks es,a)|none=>none
 |none=>none
def G2{ρ:Type}:St->List AS->List U->(St->Option ρ)->Option ρ
 |S,[],[],K=>K S|S,l::ls,o::os,K=>match l with
  |.al r none=>G2 (S.Bf r (.ow o)) ls os K|.vw (.own r (some (i,j))) _ _=>match S.at r with
   |some (.owh c xs ((i',j')::hs))=>if j'=j/\hs.all (fun p=>!Nat.beq p.2 j)=true then gd (i'=i) (bd xs[i]? fun x=>match ofC c ((cells c x).set j o) with
    |some x'=>G2 ((S.Bf r (match hs with | []=>.ow (.sl c (xs.set i x'))|_=>.owh c (xs.set i x') hs)).kill (E5 r)) ls os K
    |none=>none)
    else none
   |_=>none
  |.t _=>G2 S ls os K|_=>none
 |_,_,_,_=>none
def FH{ρ:Type}(S0:St):St->List PK->List En->List (List U)->(St->Option ρ)->Option ρ
 |S,[],_,[],K=>K S|S,k::ks,e::es,outs,K=>match k with
  |.b _=>match e,outs with
   |⟨.one,[.bp id 0]⟩,o::outs=>match get S0.bx id,get S.bx id with|some ls,some ls1=>if o.length=ls1.cs.length then FH S0 (S.NT id (o.map (D6 (DL ls.cs)))) ks es outs K else none|_,_=>none
   |_,_=>none
  |.m _=>match outs with|o::outs=>G2 S e.cs o fun S'=>FH S0 S' ks es outs K|_=>none
  |_=>FH S0 S ks es outs K
 |_,_,_,_,_=>none
def shares(e e':En):Bool:=e.cs.any fun l=>e'.cs.any fun l'=>R0 l l'
def OS:List En->List PK->List En->Bool|prev,k::ks,e::es=>(PK.writes k&&(prev.any (shares e)||es.any (shares e)))||OS (e::prev) ks es|_,_,_=>false
def AFg:Option En->Option U|some ⟨.one,[.t x]⟩=>some x|_=>none
def St.sc(S:St)(x:YO):Option U:=AFg (S.rd x)
def AZf:U->Option Int|.int _ n=>some n|.u8 x=>some (x.toNat:Int)|_=>none
def St.nat(S:St)(x:YO):Option Int:=match S.sc x with|some u=>AZf u|none=>none
def St.one(S:St)(x:YO):Option AS:=match S.rd x with|some ⟨.one,[l]⟩=>some l|_=>none
def eqU:Kd->U->U->Option Bool|.i,.int k a,.int k' b=>if k=k' then some (a==b) else none|.b,.bool a,.bool b=>some (a==b)|.s,.str a,.str b=>some (a==b)|_,_,_=>none
def AAz:List Kd->List U->List U->Option Bool
 | [],[],[]=>some true|k::ks,a::as,b::bs=>match eqU k a b,AAz ks as bs with|some x,some y=>some (x&&y)|_,_=>none
 |_,_,_=>none
def UP:List AS->Option (List U)
 | []=>some []|.t x::ls=>match UP ls with|some us=>some (x::us)|none=>none
 |_=>none
section
variable{ρ:Type}
def gdc(cst:Bool)(p:Prop) [Decidable p] (x:Option ρ):Option ρ:=match cst with|true=>if p then x else none|false=>gd p x
def AYO(cst:Bool)(op:BinOp)(k:IntKind)(a b:Int)(K:U->Option ρ):Option ρ:=
 match op with
 |.add=>K (.int k (k.wrap (a+b)))|.sub=>K (.int k (k.wrap (a-b)))|.mul=>K (.int k (k.wrap (a*b)))|.quo=>gdc cst (b≠0) (K (.int k (k.wrap (a.tdiv b))))|.rem=>gdc cst (b≠0) (K (.int k (a.tmod b)))|.and=>K (.int k (k.wrap (BitVec.ofInt k.bits a &&& BitVec.ofInt k.bits b).toNat))|.or=>K (.int k (k.wrap (BitVec.ofInt k.bits a |||BitVec.ofInt k.bits b).toNat))|.xor=>K (.int k (k.wrap (BitVec.ofInt k.bits a ^^^ BitVec.ofInt k.bits b).toNat))|.eql=>K (.bool (a==b))|.neq=>K (.bool (a != b))|.lss=>K (.bool (decide (a<b)))|.leq=>K (.bool (decide (a<=b)))|.gtr=>K (.bool (decide (a>b)))|.geq=>K (.bool (decide (a>=b)))|_=>none
def shU(cst:Bool)(op:BinOp)(k:IntKind)(a b:Int)(K:U->Option ρ):Option ρ:=
 match op with
 |.shl=>gdc cst (¬b<0) (K (.int k (k.wrap (a*2 ^ (min b.toNat k.bits)))))|.shr=>gdc cst (¬b<0) (K (.int k (a.fdiv (2 ^ (min b.toNat k.bits)))))|_=>none
def byU(op:BinOp)(a b:Int)(K:U->Option ρ):Option ρ:=
 match op with
 |.add=>K (.u8 (toB (a+b)))|.sub=>K (.u8 (toB (a-b)))|.mul=>K (.u8 (toB (a*b)))|.and=>K (.u8 (toB (BitVec.ofInt IntKind.u8.bits a &&& BitVec.ofInt IntKind.u8.bits b).toNat))|.or=>K (.u8 (toB (BitVec.ofInt IntKind.u8.bits a |||BitVec.ofInt IntKind.u8.bits b).toNat))|.xor=>K (.u8 (toB (BitVec.ofInt IntKind.u8.bits a ^^^ BitVec.ofInt IntKind.u8.bits b).toNat))|.eql=>K (.bool (a==b))|.neq=>K (.bool (a != b))|.lss=>K (.bool (decide (a<b)))|.leq=>K (.bool (decide (a<=b)))|.gtr=>K (.bool (decide (a>b)))|.geq=>K (.bool (decide (a>=b)))|_=>none
def AWN:BinOp->Bool|.shl=>true|.shr=>true|_=>false
def AX0(cst:Bool)(op:BinOp):U->U->(U->Option ρ)->Option ρ
 |.int k a,.int k' b,K=>if AWN op=true then shU cst op k a b K else if k=k' then (if k=.u8 then none else AYO cst op k a b K) else none|.int k a,.u8 b,K=>if AWN op=true then shU cst op k a b.toNat K else none|.u8 a,.u8 b,K=>byU op a.toNat b.toNat K|.str a,.str b,K=>match op with|.add=>gd (a.length+b.length<=OE) (K (.str (a++b)))|.eql=>K (.bool (a==b))|.neq=>K (.bool (a != b))|_=>none
 |_,_,_=>none
def eqK(op:BinOp)(b:Bool)(K:U->Option ρ):Option ρ:=match op with|.eql=>K (.bool b)|.neq=>K (.bool !b)|_=>none
def St.T6(S:St)(l:AS)(K:Bool->Option ρ):Option ρ:=
 match l with
 |.t .nil=>K true|.vw _ _ xs=>gd (xs.isEmpty=false) (K false)|.al r none=>match S.at r with|some (.ow .nil)=>K true|some (.ow (.sl _ xs))=>gd (xs.isEmpty=false) (K false)|_=>none
 |_=>none
def St.bin(S:St)(cst:Bool)(c:Cls)(op:BinOp)(x y:En)(K:U->Option ρ):Option ρ:=
 match c with
 |.num=>match x,y with|⟨.one,[.t a]⟩,⟨.one,[.t b]⟩=>AX0 cst op a b K|_,_=>none
 |.bool=>match x,y with|⟨.one,[.t (.bool a)]⟩,⟨.one,[.t (.bool b)]⟩=>eqK op (a==b) K|_,_=>none
 |.sl=>match x,y with|⟨.one,[l]⟩,⟨.one,[.t .nil]⟩=>S.T6 l fun b=>eqK op b K|_,_=>none
 |.agg ks=>match x,y with
  |⟨.agg,as⟩,⟨.agg,bs⟩=>match UP as,UP bs with
   |some as,some bs=>match AAz ks as bs with|some b=>eqK op b K|none=>none
   |_,_=>none
  |_,_=>none
def unU(op:UnOp)(x:U)(K:U->Option ρ):Option ρ:=
 match x with
 |.bool b=>match op with|.not=>K (.bool !b)|_=>none
 |.int k n=>match op with|.neg=>if k=.u8 then none else K (.int k (k.wrap (0-n)))|_=>none
 |_=>none
def mkInt(k:IntKind)(n:Int):U:=match k with|.u8=>.u8 (toB n)|k=>.int k (k.wrap n)
end
def AXP:List U->Bool| []=>true|.sl _ _::_=>false|.top::_=>false|.mp _::_=>false|_::us=>AXP us
def TG:C->Bool
 |.l _=>false|.m=>false|.st n=>match AXo n with|some z=>AXP (AC1 n z)|none=>false
 |.un _=>false|_=>true
def AVQ(c:C)(x:U)(ys:List c.D):Option U:=
 match x with
 |.sl c' xs=>if h:c'=c then some (.sl c ((h▸xs)++ys)) else none|_=>some (.sl c ys)
def OH(c:C)(fl:Bool)(S:St)(l:AS):Option (St×List c.D):=
 match l with
 |.t (.str s)=>match Rw.as c (.of .u s) with|some xs=>some (S,xs)|none=>none
 |.t .nil=>some (S,[])|.vw _ c' xs=>if TG c=true then match Rw.as c (.of c' xs) with|some ys=>some (S,ys)|none=>none else none
 |.al r sub=>match S.at r with
  |some (.ow x)=>match content x with
   |some w=>match Rw.as c (w.sub sub) with|some ys=>if fl=true then (if TG c=true then some (S,ys) else none) else some (S.out r,ys)|none=>none
   |none=>none
  |_=>none
 |_=>none
def QZ(c:C)(S:St)(l:AS):Option (St×U×Nat×Option (Nat×Nat)):=
 match l with
 |.t .nil=>some (S,.nil,0,none)|.al r sub=>match S.at r with
  |some (.ow x)=>match content x with
   |some w=>match Rw.as c w with
    |some xs=>some (S.out r,AFl sub x,(kE sub xs).length,match sub with|none=>none|some (lo,n)=>some (lo+n,xs.length))
    |none=>none
   |none=>none
  |_=>none
 |.vw (.own r (some (i,j))) c' xs=>if c'=c then match S.pull r i j with|some S'=>some (S',.sl c' xs,xs.length,none)|none=>none else none
 |_=>none
def gdo{γ:Type}(p:Option (Nat×Nat))(x:Option γ):Option γ:=match p with|none=>x|some (a,b)=>gd (a=b) x
def Lo(off:Nat):AS->Option AS|.bp id o=>some (.bp id (o+off))|.ep r i j=>some (.ep r i (j+off))|.vp s cs=>some (.vp s (cs.drop off))|_=>none
def I5(r:CE)(i:Nat):Nat->List U->List AS|_,[]=>[]|j,x::xs=>J8 (.own r (some (i,j))) x::I5 r i (j+1) xs
def PZ(b:Nat):Nat->List AS->List AS|_,[]=>[]|c,.ow _::ls=>.al (.cell b c) none::PZ b (c+1) ls|c,.owh _ _ _::ls=>.al (.cell b c) none::PZ b (c+1) ls|c,l::ls=>l::PZ b (c+1) ls
def Hk(b o n:Nat)(l:AS):Bool:=match l.By with|some (.cell b' c)=>Nat.beq b' b&&Nat.ble o c&&Nat.blt c (o+n)|_=>false
def He:List AS->Bool| []=>false|.t .top::_=>true|.und::_=>true|_::ls=>He ls
def Qe:AS->Bool|.bp _ _=>true|.ep _ _ _=>true|.vp _ _=>true|_=>false
section
variable{ρ:Type}
def St.load(S:St)(n:Nat)(l:AS)(K:List AS->Option ρ):Option ρ:=
 match l with
 |.bp id o=>match get S.bx id with|some ls=>if o+n<=ls.cs.length then K (PZ id o ((ls.cs.drop o).take n)) else none|none=>none
 |.ep r i j=>match S.at r with|some (.ow (.sl c xs))=>bd (at? xs i) fun x=>if j+n<=(cells c x).length then K (I5 r i.toNat j (((cells c x).drop j).take n)) else none|_=>none
 |.vp s cs=>if n<=cs.length then K ((cs.take n).map (J8 s.up)) else none|_=>none
def N4(i j n:Nat):List (Nat×Nat)->Prop| []=>True|(i',j')::hs=>i'=i/\(j<=j'/\j'<j+n)/\N4 i j n hs
def aP(i j n:Nat):(hs:List (Nat×Nat))->Decidable (N4 i j n hs)| []=>.isTrue trivial|(i',j')::hs=>@instDecidableAnd _ _ (instDecidableEqNat i' i) (@instDecidableAnd _ _ (@instDecidableAnd _ _ (Nat.decLe j j') (Nat.decLt j' (j+n))) (aP i j n hs))
def Wu(n:Nat)(S:St)(ls:List AS):Option (St×List AS):=match Nat.blt n 1048576 with|true=>Kf S ls|false=>some (S,ls)
def St.QS(S:St)(n:Nat)(p:AS)(cs:List AS)(K:St->Option ρ):Option ρ:=
 match p with
 |.bp id o=>match Wu n S cs with
  |some (S',cs')=>if He cs'=true then none else
   let S2:=S'.kill (Hk id o cs'.length)
   match get S2.bx id with
   |some ls=>if o+cs'.length<=ls.cs.length then K (S2.NT id (Dd ls.cs o (EA (Hk id o cs'.length) cs'))) else none|none=>none
  |none=>none
 |.ep r i j=>match DX S cs with
  |some (S',us)=>match S'.at r with
   |some (.ow (.sl c xs))=>bd (at? xs i) fun x=>if j+us.length<=(cells c x).length then match ofC c (Dd (cells c x) j us) with
    |some x'=>K ((S'.Bf r (.ow (.sl c (xs.set i.toNat x')))).kill (E5 r))|none=>none
    else none
   |some (.owh c xs hs)=>bd (at? xs i) fun x=>if j+us.length<=(cells c x).length then match ofC c (Dd (cells c x) j us) with
    |some x'=>@gd _ (N4 i.toNat j us.length hs) (aP i.toNat j us.length hs) (K ((S'.Bf r (.ow (.sl c (xs.set i.toNat x')))).kill (E5 r)))|none=>none
    else none
   |_=>none
  |none=>none
 |_=>none
end
def LY(S:St):List AS->List (Nat×Nat×YO)->Option (List AS)
 |ls,[]=>some ls|ls,(o,n,x)::ps=>match S.rd x with|some e=>if e.cs.length=n/\Fp e.sh n=true/\He e.cs=false/\o+n<=ls.length then LY S (Dd ls o e.cs) ps else none|none=>none
def ABP(i n:Nat):List (Nat×YO)->Bool| []=>i==n|(k,_)::ps=>k==i&&ABP (i+1) n ps
def bsL(c:C)(n:Nat):St->List (Nat×YO)->Option (St×List c.D)
 |S,[]=>some (S,[])|S,(i,x)::ps=>match S.rd x with
  |some e=>if e.cs.length=c.size/\Fp e.sh e.cs.length=true/\i<n then match DX S e.cs with
   |some (S',us)=>match ofC c us,bsL c n S' ps with|some y,some (S2,ys)=>some (S2,y::ys)|_,_=>none
   |none=>none
   else none
  |none=>none
def bsK(c:C)(n:Nat):St->List c.D->List (Nat×YO)->Option (St×List c.D)
 |S,xs,[]=>some (S,xs)|S,xs,(i,x)::ps=>match S.rd x with
  |some e=>if e.cs.length=c.size/\Fp e.sh e.cs.length=true/\i<n then match DX S e.cs with
   |some (S',us)=>match ofC c us with|some y=>bsK c n S' (xs.set i y) ps|none=>none
   |none=>none
   else none
  |none=>none
def ABQ:Sh->Bool|.one=>true|_=>false
def St.wide(S:St)(c:C):AS->Bool
 |.vw _ c' _=>decide (c'=c)|.al r _=>match S.at r with
  |some (.ow x)=>match x with|.sl c' _=>decide (c'=c)|_=>true
  |some (.owh c' _ _)=>decide (c'=c)|_=>false
 |_=>true
inductive YOp where
 |mv(d:Nat)(x:YO)|as(d:Nat)(x:YO)|pick(d:Nat)(c a b:YO)|alloc(d:Nat)(zs:List U)|box(d:Nat)(x:YO)|build(d:Nat)(zs:List U)(parts:List (Nat×Nat×YO))|CC(d:Nat)(n:Nat)(c:C)(parts:List (Nat×YO))|ld(d:Nat)(n:Option Nat)(x:YO)|st(n:Nat)(x v:YO)|chk(d:Nat)(x:YO)|bin(d:Nat)(c:Cls)(op:BinOp)(x y:YO)|un(d:Nat)(op:UnOp)(x:YO)|cvI(d:Nat)(k:IntKind)(x:YO)|ML(d:Nat)(x:YO)|Ny(d:Nat)(x:YO)|MR(d:Nat)(n:Nat)(caps:List YO)|O1(d:Nat)(c:C)(n:YO)|sub(d:Nat)(c:C)(x:YO)(lo hi:Option YO)|UN(d:Nat)(x:YO)(lo hi:Option YO)|fa(d:Nat)(off:Nat)(x:YO)|fld(d:Nat)(off:Nat)(n:Option Nat)(x:YO)|ia(d:Nat)(c:C)(x i:YO)|ix(d:Nat)(x i:YO)|ext(d:Nat)(x:YO)(i:Nat)|call (d:Nat) (g:GF) (fs:List Nat) (hf:fs.map (fun n=>(R[n]?).map GF.x)=(fX g.ps).map some) (args:List YO)|Dn(d:Nat)(x:YO)(ms:List Md)(args:List YO)|len(d:Nat)(x:YO)|lens(d:Nat)(x:YO)|app(d:Nat)(c:C)(fl:Bool)(x y:YO)|Qr(d:Nat)(c:C)(x n:YO)|cpy(d:Nat)(c:C)(x y:YO)|mm(d:Nat)(isMax:Bool)(x y:YO)|mmk(d:Nat)|Sy(d:Nat)(x k:YO)|Rm(x k v:YO)|S4(d:Nat)(x:YO)|bad(d:Option Nat)|drop(ds:List Nat)|T7(ns:List (CE×C))
section
variable {R} {ρ:Type}
def range(S:St)(len:Nat)(lo hi:Option YO)(K:Nat->Nat->Option ρ):Option ρ:=
 match lo,hi with
 |none,none=>K 0 len|some x,none=>match S.nat x with|some a=>gd (0<=a/\a<=(len:Int)) (K a.toNat len)|none=>none
 |none,some y=>match S.nat y with|some b=>gd (0<=b/\b<=(len:Int)) (K 0 b.toNat)|none=>none
 |some x,some y=>match S.nat x,S.nat y with|some a,some b=>gd (0<=a/\a<=b/\b<=(len:Int)) (K a.toNat b.toNat)|_,_=>none
def part{α:Type}(lo hi:Option YO)(xs:List α)(a b:Nat):List α:=
 match lo,hi with
 |none,none=>xs|some _,none=>xs.drop a|none,some _=>xs.take b|some _,some _=>(xs.drop a).take (b-a)
def AWj{α γ:Type}(s:Nat)(a:α):List (Nat×α)->(List (Nat×α)->γ)->γ
 | [],K=>K [(s,a)]|(k,b)::r,K=>match Nat.beq s k with
  |true=>K ((s,a)::r)|false=>match Nat.ble s k with|true=>K ((s,a)::(k,b)::r)|false=>AWj s a r fun r=>K ((k,b)::r)
def G8(S:St)(d:Nat)(sh:Sh)(cs:List AS)(K:St->Option ρ):Option ρ:=
 match mem d S.pin with
 |true=>none|false=>match get S.tm d with|none=>aM sh fun sh=>SZ cs fun cs=>DG S.nv fun v=>AWj d ⟨sh,cs,v⟩ S.tm fun tm=>K ⟨tm,S.bx,S.pin,v+1⟩|some _=>((S.kill (Ec d)).JX d sh (EA (Ec d) cs)).FV K
def ik(S:St)(e:En):Option Nat:=
 match e with
 |⟨.one,[.bp id _]⟩=>match get S.bx id with|some ls=>if (FI (DL ls.cs) ls.cs).isSome=true then some (DL ls.cs) else none|none=>none
 |e=>if (FI (DL e.cs) e.cs).isSome=true then some (DL e.cs) else none
def il(ks:List PK)(S0:St)(es:List En)(k:Nat):Option Nat:=
 match es[k]? with
 |some e=>match ks[k]? with|some (.p _)=>none|_=>ik S0 e
 |none=>none
def O3(S:St)(d:Nat)(ls:List AS)(K:St->Option ρ):Option ρ:=
 match mem d S.pin with|true=>none|false=>K (((S.kill (fun l=>Ec d l||FO d l)).JX d .one [.bp d 0]).NT d ls)
def Qw:(cs:List C)->Tu cs->List (List U)| [],_=>[]| [c],x=>[cells c x]|c::c'::cs,x=>cells c x.1::Qw (c'::cs) x.2
def post(d:Nat)(g:GF)(es:List En)(S0 S:St)(r:Tu (g.rk.cs++Kw g.ps))(K:St->Option ρ):Option ρ:=
 FH S0 S g.ps es ((Qw _ r).drop g.rk.cs.length) fun S'=>
  match g.rk with
  |.ptr k _=>match il g.ps S0 es k with|some lab=>O3 S' d (((Qw _ r).take g.rk.cs.length).flatten.map (D6 lab)) K|none=>none
  |.vw k _=>match il g.ps S0 es k with|some lab=>G8 S' d .one (((Qw _ r).take g.rk.cs.length).flatten.map (D6 lab)) K|none=>none
  |.ret cs=>G8 S' d (ACP (cs.map wC)) (((Qw _ r).take g.rk.cs.length).flatten.map JJ) K
def AGF(d:Nat)(g:GF)(fs:List Nat)(es:List En)(S:St)(K:St->Option ρ):Option ρ:=
 match OS [] g.ps es with
 |true=>none|false=>match UW S fs g.ps es with|some (S1,a)=>bd (g.d a) fun r=>post d g es S S1 r K|none=>none
def o7(es:List En):Option (List Cap):=
 match es with
 | []=>some []|⟨.one,[l]⟩::es=>match l.AX5,o7 es with|some c,some cs=>some (c::cs)|_,_=>none
 |_=>none
def St.Oz(S:St)(x:YO):Option (CE×List (Int×Int)):=
 match S.one x with
 |some (.al r none)=>match S.at r with|some (.ow (.mp ks))=>some (r,ks)|_=>none
 |_=>none
def ev(o:YOp R)(S:St)(K:St->Option ρ):Option ρ:=
 match o with
 |.mv d x=>match S.rd x with|some e=>G8 S d e.sh e.cs K|none=>none
 |.as d x=>match S.rd x with
  |some e=>match Kf S e.cs with|some (S',cs)=>G8 S' d e.sh cs K|none=>none
  |none=>none
 |.pick d c a b=>match S.sc c,S.rd a,S.rd b with|some (.bool t),some ea,some eb=>br t (G8 S d ea.sh ea.cs K) (G8 S d eb.sh eb.cs K)|_,_,_=>none
 |.alloc d zs=>O3 S d (zs.map .t) K|.box d x=>match S.rd x with
  |some e=>match pF S x e.cs with
   |some (S1,cs)=>if He cs=true\/Fp e.sh e.cs.length=false then none else
    O3 S1 d (EA (fun l=>Ec d l||FO d l) cs) K
   |none=>none
  |none=>none
 |.build d zs parts=>match LY S (zs.map .t) parts with|some ls=>G8 S d .agg ls K|none=>none
 |.CC d n c parts=>match ACr c with
  |some z=>if n*c.size<=16777216 then match (if ABP 0 n parts=true then bsL c n S parts else bsK c n S (List.replicate n z) parts) with
   |some (S',xs)=>G8 S' d .one [.ow (.sl c xs)] K|none=>none
   else none
  |none=>none
 |.ld d n x=>match S.one x with|some p=>S.load (DY n) p fun ls=>G8 S d (shN n) ls K|none=>none
 |.st n x v=>match S.one x,S.rd v with|some p,some e=>if e.cs.length=n % 1048576/\Fp e.sh (n % 1048576)=true then S.QS n p e.cs K else none|_,_=>none
 |.chk d x=>match S.one x with|some p=>if Qe p=true then G8 S d .one [p] K else none|none=>none
 |.bin d c op x y=>match S.rd x,S.rd y with
  |some ex,some ey=>S.bin (match y with|.k _=>true|_=>false) c op ex ey fun t=>G8 S d .one [.t t] K
  |_,_=>none
 |.un d op x=>match S.sc x with|some a=>unU op a fun t=>G8 S d .one [.t t] K|none=>none
 |.cvI d k x=>match S.nat x with|some n=>G8 S d .one [.t (mkInt k n)] K|none=>none
 |.ML d x=>match S.sc x with|some (.str s)=>G8 S d .one [.ow (.sl .u s)] K|_=>none
 |.Ny d x=>match S.one x with
  |some l=>match S.elems l with
   |some w=>match Rw.as .u w with|some bs=>G8 S d .one [.t (.str bs)] K|none=>none
   |none=>none
  |none=>none
 |.MR d n caps=>match S.rds caps with
  |some es=>match o7 es with|some cs=>G8 S d .one [.fn n cs] K|none=>none
  |none=>none
 |.O1 d c n=>match S.nat n with
  |some n=>match ACr c with|some z=>gd (0<=n/\n<=(lim:Int)) (G8 S d .one [.ow (.sl c (List.replicate n.toNat z))] K)|none=>none
  |none=>none
 |.UN d x lo hi=>match S.sc x with|some (.str s)=>range S s.length lo hi fun a b=>G8 S d .one [.t (.str (part lo hi s a b))] K|_=>none
 |.sub d c x lo hi=>match S.one x with
  |some l=>if S.wide c l=true then match l with
   |.al r sub=>match S.elems l with
    |some w=>match Rw.as c w with
     |some xs=>range S xs.length lo hi fun a b=>G8 S d .one [.al r (some (match sub with|none=>(a,b-a)|some (lo0,_)=>(lo0+a,b-a)))] K
     |none=>none
    |none=>none
   |.vw s c' xs=>range S xs.length lo hi fun a b=>G8 S d .one [.vw s.up c' (part lo hi xs a b)] K|.t .nil=>range S 0 lo hi fun _ _=>G8 S d .one [.t .nil] K|_=>none
   else none
  |none=>none
 |.fa d off x=>match S.one x with
  |some p=>match Lo off p with|some q=>G8 S d .one [q] K|none=>none
  |none=>none
 |.fld d off n x=>match S.rd x with|some ⟨.agg,cs⟩=>if off+DY n<=cs.length then G8 S d (shN n) ((cs.drop off).take (DY n)) K else none|_=>none
 |.ia d c x i=>match S.one x,S.nat i with
  |some l,some n=>if S.wide c l=true then match l with
   |.al r sub=>match S.elems l with
    |some (.of _ xs)=>bd (at? xs n) fun _=>G8 S d .one [.ep r (match sub with|none=>n|some (lo,_)=>(lo:Int)+n) 0] K
    |_=>match sub with
     |none=>match S.at r with|some (.owh _ xs _)=>bd (at? xs n) fun _=>G8 S d .one [.ep r n 0] K|_=>none
     |_=>none
   |.vw s c' xs=>bd (at? xs n) fun x=>G8 S d .one [.vp s.up (cells c' x)] K|_=>none
   else none
  |_,_=>none
 |.ix d x i=>match S.sc x,S.nat i with|some (.str s),some n=>bd (at? s n) fun x=>G8 S d .one [.t (.u8 x)] K|_,_=>none
 |.ext d x i=>match x with
  |.tmp s=>match get S.tm s with
   |some ⟨.tup ns,cs,_⟩=>match ns[i]? with
    |some n=>
     let o:=S5 (ns.take i)
     if o+DY n<=cs.length then match Kf S (((Qq s 0 cs).drop o).take (DY n)) with|some (S',ls)=>G8 S' d (shN n) ls K|none=>none
     else none
    |none=>none
   |_=>none
  |_=>none
 |.lens d x=>match S.sc x with|some (.str s)=>G8 S d .one [.t (.int .i64 s.length)] K|_=>none
 |.len d x=>match S.one x with
  |some l=>match S.elems l with|some (.of _ xs)=>G8 S d .one [.t (.int .i64 xs.length)] K|some .nl=>G8 S d .one [.t (.int .i64 0)] K|none=>none
  |none=>none
 |.app d c fl x y=>match S.one x,S.one y with
  |some lx,some ly=>match OH c fl S ly with
   |some (S1,ys)=>match QZ c S1 lx with
    |some (S2,b,n,e)=>gdo e (gd (n+ys.length<=lim) (match AVQ c b ys with|some u=>G8 S2 d .one [.ow u] K|none=>none))
    |none=>none
   |none=>none
  |_,_=>none
 |.Qr d c x n=>match S.one x,S.nat n,ACr c with
  |some lx,some k,some z=>gd (0<=k/\k<=(lim:Int)) (match QZ c S lx with
   |some (S2,b,n,e)=>gdo e (gd (n+k.toNat<=lim) (match AVQ c b (List.replicate k.toNat z) with|some u=>G8 S2 d .one [.ow u] K|none=>none))
   |none=>none)
  |_,_,_=>none
 |.cpy d c x y=>match S.one x,S.one y with
  |some (.al r none),some ly=>match S.at r,S.elems ly with
   |some (.ow (.sl c' xs)),some w=>match Rw.as c w,Rw.as c (.of c' xs) with
    |some ys,some xs=>if S.wide c ly=true/\TG c=true then
     gd (xs.isEmpty=false) (G8 ((S.Bf r (.ow (.sl c (ys.take xs.length++xs.drop ys.length)))).kill (E5 r)) d .one [.t (.int .i64 (min ys.length xs.length:Nat))] K)
     else none
    |_,_=>none
   |_,_=>none
  |_,_=>none
 |.mm d isMax x y=>match S.sc x,S.sc y with|some (.int k a),some (.int k' b)=>if k'=k then G8 S d .one [.t (.int k (if isMax=true then (if b>a then b else a) else (if b<a then b else a)))] K else none|_,_=>none
 |.mmk d=>G8 S d .one [.ow (.mp [])] K|.Sy d x k=>match S.Oz x,S.sc k with|some (_,ks),some (.int .i64 n)=>G8 S d .one [.t (.int .i64 (Lj ks n))] K|_,_=>none
 |.Rm x k v=>match S.Oz x,S.sc k,S.sc v with|some (r,ks),some (.int .i64 n),some (.int .i64 m)=>K ((S.Bf r (.ow (.mp (I6 ks n m)))).kill (E5 r))|_,_,_=>none
 |.S4 d x=>match S.Oz x with|some (_,ks)=>G8 S d .one [.t (.int .i64 ks.length)] K|none=>none
 |.bad _=>none|.drop ds=>K (S.Hq ds)|.T7 ns=>K (S.QC ns)|.call d g fs _ args=>match S.rds args with|some es=>AGF d g fs es S K|none=>none
 |.Dn d x ms args=>match S.one x,S.rds args with
  |some (.fn n caps),some es=>match R[n]? with|some g=>if g.ps.map PK.md=ms then AGF d g [] (es++caps.map fun l=>⟨.one,[l.leaf]⟩) S K else none|none=>none
  |_,_=>none
def YOp.gl:YOp R->Option Nat|.mv d _=>some d|.as d _=>some d|.pick d _ _ _=>some d|.alloc d _=>some d|.box d _=>some d|.build d _ _=>some d|.CC d _ _ _=>some d|.ld d _ _=>some d|.chk d _=>some d|.bin d _ _ _ _=>some d|.un d _ _=>some d|.cvI d _ _=>some d|.ML d _=>some d|.Ny d _=>some d|.MR d _ _=>some d|.O1 d _ _=>some d|.sub d _ _ _ _=>some d|.UN d _ _ _=>some d|.fa d _ _=>some d|.fld d _ _ _=>some d|.ia d _ _ _=>some d|.ix d _ _=>some d|.ext d _ _=>some d|.call d _ _ _ _=>some d|.Dn d _ _ _=>some d|.len d _=>some d|.lens d _=>some d|.app d _ _ _ _=>some d|.Qr d _ _ _=>some d|.cpy d _ _ _=>some d|.mm d _ _ _=>some d|.mmk d=>some d|.Sy d _ _=>some d|.S4 d _=>some d|.Rm _ _ _=>none|.bad d=>d|.st _ _ _=>none|.drop _=>none|.T7 _=>none
def YOp.simple:YOp R->Bool|.mv _ _=>true|.as _ _=>true|.pick _ _ _ _=>true|.ld _ _ _=>true|.chk _ _=>true|.bin _ _ _ _ _=>true|.un _ _ _=>true|.cvI _ _ _=>true|.ML _ _=>true|.Ny _ _=>true|.O1 _ _ _=>true|.sub _ _ _ _ _=>true|.UN _ _ _ _=>true|.fa _ _ _=>true|.fld _ _ _ _=>true|.ia _ _ _ _=>true|.ix _ _ _=>true|.len _ _=>true|.lens _ _=>true|.mm _ _ _ _=>true|.mmk _=>true|.Sy _ _ _=>true|.S4 _ _=>true|.call _ g _ _ _=>!(g.ps.any PK.writes)|_=>false
def LU(o:YOp R)(S:St)(K:St->Option ρ):Option ρ:=match o.gl with|some d=>G8 S d .one [.und] K|none=>K S
def reE(s:Nat)(e:Ent):List (Nat×Ent)->List (Nat×Ent)
 | []=>[]|(k,x)::r=>match Nat.beq k s with|true=>(k,e)::r|false=>(k,x)::reE s e r
def St.lit(S:St)(s:Nat)(b:Bool):St:=⟨reE s ⟨.one,[.t (.bool b)],S.nv⟩ S.tm,S.bx,S.pin,S.nv+1⟩
def jO(w:Bool)(o:YOp R)(S:St)(f:Option ρ)(K:St->Option ρ):Option ρ:=match w with|true=>f|false=>LU o S K
def evg(g:Option (Nat×Bool))(o:YOp R)(S:St)(K:St->Option ρ):Option ρ:=
 match g with
 |none=>ev o S K|some (s,w)=>match get S.tm s with
  |some ⟨.one,[.t (.bool b)],_⟩=>
   br b (jO w o (S.lit s true) (ev o (S.lit s true) K) K) (jO (!w) o (S.lit s false) (ev o (S.lit s false) K) K)
  |some ⟨.one,[.und],_⟩=>LU o S K|_=>none
def evs:List (Option (Nat×Bool)×YOp R)->St->(St->Option ρ)->Option ρ
 | [],S,K=>K S|(g,o)::r,S,K=>match o.simple with|true=>evg g o S fun S'=>evs r S' K|false=>evg g o S fun S'=>S'.FV fun S'=>evs r S' K
def YOp.wr:YOp R->Option YO|.app _ _ _ x _=>some x|.Qr _ _ x _=>some x|.cpy _ _ x _=>some x|.Rm x _ _=>some x|_=>none
def JU(l:AS):List PK->List En->Bool|k::ks,e::es=>(!PK.writes k||e.cs.all fun l'=>!QM l' l)&&JU l ks es|_,_=>true
def St.M5(S:St):AS->Bool
 |.bp id _=>(get S.bx id).isSome|.ep _ _ _=>true|.vp _ cs=>!cs.isEmpty|.al r _=>match S.at r with|some (.ow x)=>!YK x|_=>false
 |.vw (.own _ _) _ _=>true|.t .nil=>true|_=>false
def TS(o:YOp R)(S:St)(l:AS):Bool:=
 S.M5 l&&match o with
  |.st _ x _=>match S.one x with|some (.bp id _)=>!mem id (names l)|some (.ep r _ _)=>!isR l.By r|_=>false
  |.call _ g _ _ args=>match S.rds args with|some es=>JU l g.ps es|none=>false
  |.Dn _ x ms args=>match S.one x,S.rds args with
   |some (.fn n caps),some es=>match R[n]? with|some g=>if g.ps.map PK.md=ms then JU l g.ps (es++caps.map fun l=>⟨.one,[l.leaf]⟩) else false|none=>false
   |_,_=>false
  |o=>match o.wr with
   |some y=>match S.one y with
    |some lt=>l.By.isNone||!(match l.By with|some r=>isR lt.By r|none=>lt.By.isNone)
    |none=>false
   |none=>true
def JK(o:YOp R)(S:St):List Nat->Bool
 | []=>true|s::ss=>(match S.one (.tmp s) with|some l=>TS o S l|none=>false)&&JK o S ss
end
abbrev ifB{γ:Type}(b:Bool)(x:Option γ):Option γ:=match b with|true=>x|false=>none
theorem AYM{γ:Type}{b:Bool}{x:Option γ}:ifB b x=if b=true then x else none:=by cases b<;>rfl
def ZR{α:Type}(k:Nat):List (Nat×α)->Bool
 | []=>false|(j,_)::r=>match Nat.beq j k with|true=>true|false=>ZR k r
def jF{α:Type}:List (Nat×α)->Bool| []=>true|(k,_)::r=>(!ZR k r)&&jF r
def AKd:List (Option Nat)->List (Option Nat)->Bool| [],[]=>true|none::r,none::r'=>AKd r r'|some a::r,some b::r'=>Nat.beq a b&&AKd r r'|_,_=>false
def AYH:Sh->Sh->Bool|.one,.one=>true|.agg,.agg=>true|.tup a,.tup b=>AKd a b|.ptr a,.ptr b=>Nat.beq a b|.vw a,.vw b=>Nat.beq a b|_,_=>false
def AI3:Option (Nat×Nat)->Option (Nat×Nat)->Bool|none,none=>true|some (a,b),some (a',b')=>Nat.beq a a'&&Nat.beq b b'|_,_=>false
def AI2:Src->Src->Bool|.old a,.old b=>Nat.beq a b|.own r s,.own r' s'=>CE.is r r'&&AI3 s s'|_,_=>false
def AV6:List (Nat×Nat)->List (Nat×Nat)->Bool| [],[]=>true|(a,b)::r,(a',b')::r'=>Nat.beq a a'&&Nat.beq b b'&&AV6 r r'|_,_=>false
section
variable{ρ:Type}
def agU:U->U->Option ρ->Option ρ|.top,.top,X=>X|.int k n,.int k' n',X=>if k'=k then eqv n n' X else none|.u8 a,.u8 b,X=>eqv a b X|.bool a,.bool b,X=>eqv a b X|.str a,.str b,X=>eqv a b X|.nil,.nil,X=>X|.np,.np,X=>X|.mp a,.mp b,X=>eqv a b X|.sl c xs,.sl c' ys,X=>if h:c'=c then eqv xs (h▸ys) X else none|_,_,_=>none
def AXr:List U->List U->Option ρ->Option ρ| [],[],X=>X|a::r,b::r',X=>agU a b (AXr r r' X)|_,_,_=>none
def AZF:AS->AS->Option ρ->Option ρ|.t x,.t y,X=>agU x y X|.und,.und,X=>X|.ow x,.ow y,X=>agU x y X|.owh c xs hs,.owh c' ys hs',X=>ifB (AV6 hs hs') (if h:c'=c then eqv xs (h▸ys) X else none)|.al r s,.al r' s',X=>ifB (CE.is r r'&&AI3 s s') X|.ep r i j,.ep r' i' j',X=>ifB (CE.is r r'&&Nat.beq j j') (eqv i i' X)|.vw s c xs,.vw s' c' ys,X=>ifB (AI2 s s') (if h:c'=c then eqv xs (h▸ys) X else none)|.vp s cs,.vp s' cs',X=>ifB (AI2 s s') (AXr cs cs' X)|.bp a o,.bp a' o',X=>ifB (Nat.beq a a'&&Nat.beq o o') X|_,_,_=>none
def AVN:List AS->List AS->Option ρ->Option ρ| [],[],X=>X|a::r,b::r',X=>AZF a b (AVN r r' X)|_,_,_=>none
def agE(v:Nat):List (Nat×Ent)->List (Nat×Ent)->Option ρ->Option ρ
 | [],[],X=>X|(k,e)::r,(k',e')::r',X=>match Nat.beq k k' with
  |true=>match (Nat.blt e.ver v&&Nat.blt e'.ver v) with|true=>agE v r r' X|false=>ifB (AYH e.sh e'.sh) (AVN e.cs e'.cs (agE v r r' X))
  |false=>none
 |_,_,_=>none
def agB(v:Nat):List (Nat×Bx)->List (Nat×Bx)->Option ρ->Option ρ
 | [],[],X=>X|(k,e)::r,(k',e')::r',X=>match Nat.beq k k' with
  |true=>match (Nat.blt e.ver v&&Nat.blt e'.ver v) with|true=>agB v r r' X|false=>AVN e.cs e'.cs (agB v r r' X)
  |false=>none
 |_,_,_=>none
def agS(v:Nat)(A B:St)(X:Option ρ):Option ρ:=ifB (jF A.tm&&jF B.tm&&jF A.bx&&jF B.bx) (agE v A.tm B.tm (agB v A.bx B.bx X))
end
inductive Bs where
 |nil|op(i:Nat)(g:Option (Nat×Bool))(sf:List Nat)(o:YOp R)(rest:Bs)|dr(ds:List Nat)(rest:Bs)|nl(ns:List (CE×C))(rest:Bs)|both(n:Nat)(a b:Bs)
section
variable {R} {ρ:Type}
def evr:Bs R->St->(St->Option ρ)->Option ρ
 |.nil,S,K=>K S|.op _ g sf p rest,S,K=>match g with
  |none=>ifB (JK p S sf) (ev p S fun S'=>S'.FV fun S'=>evr rest S' K)|some (s,w)=>match get S.tm s with
   |some ⟨.one,[.t (.bool b)],_⟩=>
    br b (jO w p (S.lit s true) (ifB (JK p (S.lit s true) sf) (ev p (S.lit s true) fun S'=>S'.FV fun S'=>evr rest S' K)) fun S'=>S'.FV fun S'=>evr rest S' K)
     (jO (!w) p (S.lit s false) (ifB (JK p (S.lit s false) sf) (ev p (S.lit s false) fun S'=>S'.FV fun S'=>evr rest S' K)) fun S'=>S'.FV fun S'=>evr rest S' K)
   |some ⟨.one,[.und],_⟩=>LU p S fun S'=>S'.FV fun S'=>evr rest S' K|_=>none
 |.dr ds rest,S,K=>evr rest (S.Hq ds) K|.nl ns rest,S,K=>evr rest (S.QC ns) K|.both n a b,S,K=>match n with|0=>evr a S fun A=>evr b S fun B=>agS S.nv A B (K A)|_+1=>evr a S fun A=>alt (fun X=>evr b S fun B=>agS S.nv A B X) (K A)
end
inductive AL where
 |val(c:C)(s:Option Src)|num(k:IntKind)|al(r:CE)
def AL.D:AL->Type|.val c _=>c.D|.num _=>Int|.al _=>Unit
def AL.w:AL->Nat|.val c _=>c.size|.num _=>1|.al _=>1
def TA:List AL->Type| []=>Unit| [a]=>a.D|a::a'::as=>a.D×TA (a'::as)
def ASm(s:Option Src)(x:U):AS:=match s with|none=>JJ x|some q=>J8 q x
def AL.leaf:(a:AL)->a.D->List AS|.val c s,x=>(cells c x).map (ASm s)|.num k,z=>[.t (.int k z)]|.al r,_=>[.al r none]
def ASn(s:Option Src):AS->Option U
 |.t (.sl _ _)=>none|.t .nil=>none|.t (.mp _)=>none|.t x=>some x|.ow (.sl c xs)=>match s with|none=>some (.sl c xs)|some _=>none
 |.ow (.mp ks)=>match s with|none=>some (.mp ks)|some _=>none
 |.vw q' c xs=>match s with|none=>none|some q=>if q'=q then some (.sl c xs) else none
 |_=>none
def sk(s:Option Src):List AS->Option (List U)
 | []=>some []|l::ls=>match ASn s l,sk s ls with|some x,some xs=>some (x::xs)|_,_=>none
def AL.un:(a:AL)->List AS->Option a.D
 |.val c s,ls=>match sk s ls with|some us=>ofC c us|none=>none
 |.num k,ls=>match ls with | [.t (.int k' z)]=>if k'=k then some z else none|_=>none
 |.al r,ls=>match ls with | [.al r' none]=>if r'=r then some () else none|_=>none
def Rk:(as:List AL)->TA as->List AS| [],_=>[]| [a],x=>a.leaf x|a::a'::as,x=>a.leaf x.1++Rk (a'::as) x.2
def AW8:(as:List AL)->List AS->Option (TA as)
 | [],ls=>match ls with | []=>some ()|_=>none
 | [a],ls=>a.un ls|a::a'::as,ls=>match a.un (ls.take a.w),AW8 (a'::as) (ls.drop a.w) with|some x,some y=>some (x,y)|_,_=>none
abbrev Cut:=List (Bool×Nat×Sh×List AL)
def wid:List AL->Nat| []=>0|a::as=>a.w+wid as
def Cut.as(c:Cut):List AL:=(c.map fun v=>v.2.2.2).flatten
def seg:Cut->List AS->List (Bool×Nat×Sh×List AS)| [],_=>[]|(b,d,sh,as)::vs,ls=>(b,d,sh,ls.take (wid as))::seg vs (ls.drop (wid as))
def look(b:Bool)(k:Nat):List (Bool×Nat×Sh×List AS)->Option (Sh×List AS)
 | []=>none|(b',d,sh,ls)::r=>match (b'==b&&Nat.beq d k) with|true=>some (sh,ls)|false=>look b k r
def jf(q:List (Bool×Nat×Sh×List AS))(a:List (Nat×Ent))(v:Nat):List (Nat×Ent)->List (Nat×Ent)
 | []=>[]|(k,e)::r=>(k,match look false k q with|some (sh,ls)=>⟨sh,ls,v⟩|none=>match get a k with|some e'=>e'|none=>e)::jf q a v r
def je(q:List (Bool×Nat×Sh×List AS))(a:List (Nat×Bx))(v:Nat):List (Nat×Bx)->List (Nat×Bx)
 | []=>[]|(k,e)::r=>(k,match look true k q with|some (_,ls)=>⟨ls,v⟩|none=>match get a k with|some e'=>e'|none=>e)::je q a v r
def Cut.st(c:Cut)(S S':St)(x:TA c.as):St:=⟨jf (seg c (Rk c.as x)) S.tm S.nv S'.tm,je (seg c (Rk c.as x)) S.bx S.nv S'.bx,S.pin,S.nv+1⟩
def NR(b:Bool)(k:Nat):Cut->Bool
 | []=>false|(b',d,_)::r=>match (b'==b&&Nat.beq d k) with|true=>true|false=>NR b k r
def AJv(c:Cut)(a:List (Nat×Ent)):List (Nat×Ent)->Bool
 | []=>true|(k,e)::r=>(match NR false k c with|true=>true|false=>match get a k with|some e'=>Nat.beq e.ver e'.ver|none=>false)&&(!ZR k r)&&AJv c a r
def AJu(c:Cut)(a:List (Nat×Bx)):List (Nat×Bx)->Bool
 | []=>true|(k,e)::r=>(match NR true k c with|true=>true|false=>match get a k with|some e'=>Nat.beq e.ver e'.ver|none=>false)&&(!ZR k r)&&AJu c a r
def NL{α:Type}:List (Nat×α)->List (Nat×α)->Bool| [],[]=>true|(k,_)::r,(k',_)::r'=>Nat.beq k k'&&NL r r'|_,_=>false
def Ps(S:St):Cut->Option (List AS)
 | []=>some []|(false,d,sh,as)::vs=>match get S.tm d,Ps S vs with|some e,some ls=>if AMr e.sh sh=true/\e.cs.length=wid as then some (e.cs++ls) else none|_,_=>none
 |(true,d,_,as)::vs=>match get S.bx d,Ps S vs with|some e,some ls=>if e.cs.length=wid as then some (e.cs++ls) else none|_,_=>none
def wfE(v:Nat):List (Nat×Ent)->Bool| []=>true|(_,e)::r=>Nat.blt e.ver v&&wfE v r
def wfB(v:Nat):List (Nat×Bx)->Bool| []=>true|(_,e)::r=>Nat.blt e.ver v&&wfB v r
def Cut.fit(c:Cut)(S S':St):Option (TA c.as):=
 if wfE S.nv S.tm=true/\wfB S.nv S.bx=true/\AJv c S.tm S'.tm=true/\AJu c S.bx S'.bx=true
 then match Ps S' c with|some ls=>AW8 c.as ls|none=>none
 else none
inductive GN where
 |skip|region(ops:List (Option (Nat×Bool)×YOp R))(E4:List Nat)|Tm(r:Bs R)(E4:List Nat)|seq(a b:GN)|join(c:Cut)(a b:GN)|cond(c:Nat)(kt ke:List Nat)(t e:GN)|block(id:Nat)(b:GN)|loop(c:Cut)(b:GN)|exit(id:Nat)|ret|scope(b:GN)|or(a b:GN)|dead|AWf(c:Cut)(b:GN)
end
section
variable{R:List GF}{ρ:Type}
def G7:GN R->St->(Ex->St->Option ρ)->Option ρ
 |.skip,S,K=>K .n S|.region ops E4,S,K=>evs ops S fun S'=>(S'.pJ E4).FV fun S'=>K .n S'|.Tm r E4,S,K=>evr r S fun S'=>(S'.pJ E4).FV fun S'=>K .n S'|.seq a b,S,K=>G7 a S fun e S'=>match e with|Ex.n=>G7 b S' K|.x i=>K (.x i) S'|.r=>K .r S'
 |.join c a b,S,K=>G7 a S fun e S'=>match e with
  |.n=>match c.fit S S' with|some x=>jn (fun x=>(c.st S S' x).FV fun S=>G7 b S K) x|none=>none
  |.x i=>K (.x i) S'|.r=>K .r S'
 |.cond c kt ke t e,S,K=>match S.sc (.tmp c) with|some (.bool b)=>br b ((S.pJ kt).FV fun S=>G7 t S K) ((S.pJ ke).FV fun S=>G7 e S K)|_=>none
 |.block id b,S,K=>G7 b S fun e S'=>match e with|.n=>K .n S'|.x i=>if i=id then K .n S' else K (.x i) S'|.r=>K .r S'
 |.loop c b,S,K=>match c.fit S S with
  |some x=>A3 (fun L x=>(c.st S S x).FV fun S1=>G7 b S1 fun e S'=>match e with
   |.n=>if NL S.tm S'.tm=true/\NL S.bx S'.bx=true then (match c.fit S S' with|some y=>L y|none=>none) else none
   |.x i=>K (.x i) S'|.r=>K .r S') big x
  |none=>none
 |.exit id,S,K=>K (.x id) S|.ret,S,K=>K .r S|.scope b,S,K=>G7 b S K|.or a b,S,K=>orX (G7 a S K) (G7 b S K)|.dead,_,_=>none|.AWf c b,S,K=>G7 b S fun e S0=>match e with
  |.n=>match c.fit S0 S0 with
   |some x=>A3 (fun L x=>(c.st S0 S0 x).FV fun S1=>G7 b S1 fun e S'=>match e with
    |.n=>if NL S0.tm S'.tm=true/\NL S0.bx S'.bx=true then (match c.fit S0 S' with|some y=>L y|none=>none) else none
    |.x i=>K (.x i) S'|.r=>K .r S') big x
   |none=>none
  |.x i=>K (.x i) S0|.r=>K .r S0
def Nx(i:Nat):(l:List (Bool×C))->oe l->List Cap
 | [],_=>[]|(false,c)::r,x=>(match cells c x.1 with | [.sl c' xs]=>.vw i c' xs | [u]=>.t u|_=>.t .top)::Nx i r x.2
 |(true,c)::r,x=>.vp i (cells c x.1)::Nx i r x.2
def initK:Nat->List Nat->(ks:List PK)->A ks->St->St
 |_,_,[],_,S=>S|i,fs,.v c::ks,a,S=>initK (i+1) fs ks a.2 (S.JX i (shC c) ((cells c a.1).map (D6 i)))|i,fs,.p c::ks,a,S=>initK (i+1) fs ks a.2 (S.JX i .one [.vp (.old i) (cells c a.1)])|i,fs,.b c::ks,a,S=>initK (i+1) fs ks a.2 (let S1:=(S.JX i .one [.bp i 0]).NT i ((cells c a.1).map (D6 i));⟨S1.tm,S1.bx,i::S1.pin,S1.nv⟩)
 |i,fs,.o c::ks,a,S=>initK (i+1) fs ks a.2 (S.JX i (shC c) ((cells c a.1).map JJ))|i,fs,.m c::ks,a,S=>initK (i+1) fs ks a.2 (let S1:=S.JX i (shC c) ((cells c a.1).map JJ);⟨S1.tm,S1.bx,i::S1.pin,S1.nv⟩)
 |i,fs,.f _ l::ks,a,S=>initK (i+1) fs.tail ks a.2 (S.JX i .one [.fn (fs.headD 0) (Nx i l a.1)])
def LS{ρ:Type}:List Hy->St->(List (Option Nat)->List AS->Option ρ)->Option ρ
 | [],_,K=>K [] []|.tmp t::rs,S,K=>match S.rd (.tmp t) with
  |some e=>if Fp e.sh e.cs.length=true then LS rs S fun ns ls=>K ((match e.sh with|.one=>none|_=>some e.cs.length)::ns) (e.cs++ls) else none
  |none=>none
 |.cell t n::rs,S,K=>match S.one (.tmp t) with|some (.bp id o)=>S.load (DY n) (.bp id o) fun ls'=>LS rs S fun ns ls=>K (n::ns) (ls'++ls)|_=>none
 |.bx _::_,_,_=>none|.vw _ _::_,_,_=>none|.un _ _::_,_,_=>none
def ND:List AS->Bool
 | []=>true|l::ls=>(match l with|.t x=>!Qf x|.vw (.old _) _ _=>true|_=>false)&&ND ls
def Zq(rk:RK)(rs:List Hy)(S:St)(K:St->List U->Option ρ):Option ρ:=
 match rk,rs with
 |.ptr k _,[.bx t]=>match S.one (.tmp t) with
  |some (.bp id 0)=>match get S.bx id with
   |some ls=>if mem id S.pin=true then none else if DL ls.cs=k then match FI k ls.cs with|some us=>K S us|none=>none else none
   |none=>none
  |_=>none
 |.vw k _,[.vw t k']=>if k'=k then match S.one (.tmp t) with
  |some (.vw (.old k'') c xs)=>if k''=k then K S [.sl c xs] else none|some (.al r sub)=>match S.at r with|some (.ow x)=>K (S.out r) [AFl sub x]|_=>none
  |_=>none
  else none
 |.ret (.un n::c::cs),.un t n'::r::rs=>if n'=n then match S.one (.tmp t) with
  |some (.bp id o)=>S.load n (.bp id o) fun ls'=>if ND ls'=true then LS (r::rs) S fun ns ls=>if ns=(c::cs).map wC then match DX S ls with
   |some (S',us)=>K S' (List.replicate n .un++us)|none=>none
   else none
   else none
  |_=>none
  else none
 |.ret cs,rs=>LS rs S fun ns ls=>if ns=cs.map wC then match DX S ls with
  |some (S',us)=>K S' us|none=>none
  else none
 |_,_=>none
def owT:AS->Option U|.ow x=>some x|.t x=>if Qf x=true then none else some x|_=>none
def Zp:List AS->Option (List U)
 | []=>some []|l::ls=>match owT l,Zp ls with|some x,some xs=>some (x::xs)|_,_=>none
def Ep:Nat->List PK->St->Option (List U)
 |_,[],_=>some []|i,.b c::ks,S=>match get S.bx i,Ep (i+1) ks S with
  |some ls,some os=>if mem i S.pin=true/\ls.cs.length=c.size then match FI i ls.cs with|some us=>some (us++os)|none=>none else none
  |_,_=>none
 |i,.m c::ks,S=>match get S.tm i,Ep (i+1) ks S with
  |some e,some os=>if mem i S.pin=true/\Fp e.sh e.cs.length=true/\e.cs.length=c.size then match Zp e.cs with|some us=>some (us++os)|none=>none else none
  |_,_=>none
 |i,_::ks,S=>Ep (i+1) ks S
def TT:List C->Nat| []=>0|c::cs=>c.size+TT cs
def fin(ks:List PK)(rk:RK)(rs:List Hy)(S:St):Option (Tu (rk.cs++Kw ks)):=
 Zq rk rs S fun S' us=>match Ep 0 ks S' with|some os=>if us.length=TT rk.cs then ofT (rk.cs++Kw ks) (us++os) else none|none=>none
end
structure YF where
 R:List GF
 ps:List PK
 fs:List Nat
 rk:RK
 rs:List Hy
 body:GN R
def YF.run(f:YF)(a:A f.ps):Option (Tu (f.rk.cs++Kw f.ps)):=
 (initK 0 f.fs f.ps a ⟨[],[],[],0⟩).FV fun S=>G7 f.body S fun e S=>match e with|.x _=>none|.n=>fin f.ps f.rk f.rs S|.r=>fin f.ps f.rk f.rs S
end Y
end Lv
namespace Lv
open Go (IntKind BinOp UnOp)
theorem E2:∀(c:C) (x:c.D),enc c x=(cells c x).map U.fg
 |.i,x=>rfl|.u,x=>rfl|.b,x=>rfl|.s,x=>rfl|.m,x=>rfl|.ki _,x=>rfl|.z,x=>rfl|.l c,xs=>rfl|.un n,x=>by simp only[enc,cells,List.map_replicate];rfl|.st n,x=>by
  match n,x with
  |0,x=>rfl|1,x=>rfl|2,x=>rfl|3,x=>rfl|4,x=>rfl|5,x=>rfl|6,x=>rfl|7,x=>rfl|8,x=>rfl|9,x=>rfl|10,x=>rfl|11,x=>rfl|12,x=>rfl|13,x=>rfl|14,x=>rfl|15,x=>rfl|16,x=>rfl|17,x=>rfl|_+18,x=>rfl
theorem AU5{u:U}{n:Int}(h:toI u=some n):u=.int .i64 n:=by
 cases u<;>simp[toI]at h
 grind
theorem AY7{u:U}{n:UInt8}(h:toU u=some n):u=.u8 n:=by cases u<;>simp[toU]at h;rw[h]
theorem AJ2{u:U}{n:Bool}(h:AW4 u=some n):u=.bool n:=by cases u<;>simp[AW4]at h;rw[h]
theorem AU7{u:U}{n:List UInt8}(h:toS u=some n):u=.str n:=by cases u<;>simp[toS]at h;rw[h]
theorem AY6{k:IntKind}{u:U}{n:Int}(h:toN k u=some n):u=.int k n:=by
 cases u<;>simp[toN]at h
 grind
theorem AY8{u:U}{n:Unit}(h:toZ u=some n):u=.nil:=by cases u<;>simp[toZ]at h;rfl
theorem AY5{u:U}{n:List (Int×Int)}(h:toM u=some n):u=.mp n:=by cases u<;>simp[toM]at h;rw[h]
theorem AU6{c:C}{u:U}{n:List c.D}(h:toL c u=some n):u=.sl c n:=by
 cases u<;>simp[toL]at h
 grind
theorem bind_eq{α β:Type}{o:Option α}{f:α->Option β}{r:β}(h:o.bind f=some r):∃x,o=some x/\f x=some r:=ob h
theorem De{α:Type}{us:List U}{K:Int->List U->Option α}{r:α}(h:gI us K=some r):∃a c,us=.int .i64 a::c/\K a c=some r:=by
 cases us with
 |nil=>cases h
 |cons u us=>obtain⟨a,e,h⟩:=bind_eq h;obtain rfl:=AU5 e;exact⟨a,us,rfl,h⟩
theorem ZG{α:Type}{us:List U}{K:List UInt8->List U->Option α}{r:α}(h:gS us K=some r):∃a c,us=.str a::c/\K a c=some r:=by
 cases us with
 |nil=>cases h
 |cons u us=>obtain⟨a,e,h⟩:=bind_eq h;obtain rfl:=AU7 e;exact⟨a,us,rfl,h⟩
theorem AYK{α:Type}{us:List U}{K:Bool->List U->Option α}{r:α}(h:gBo us K=some r):∃a c,us=.bool a::c/\K a c=some r:=by
 cases us with
 |nil=>cases h
 |cons u us=>obtain⟨a,e,h⟩:=bind_eq h;obtain rfl:=AJ2 e;exact⟨a,us,rfl,h⟩
theorem JF{α:Type}{c:C}{us:List U}{K:List c.D->List U->Option α}{r:α}(h:gL c us K=some r):∃a e,us=.sl c a::e/\K a e=some r:=by
 cases us with
 |nil=>cases h
 |cons u us=>obtain⟨a,j,g⟩:=bind_eq h;obtain rfl:=AU6 j;exact⟨a,us,rfl,g⟩
theorem Ka{α:Type}{us:List U}{a r:α}(h:gE us a=some r):us=[]/\a=r:=by
 cases us with
 |nil=>exact⟨rfl,Option.some.inj h⟩|cons u us=>cases h
theorem AS4{us:List U}{x:Bp}(h:AS3 us=some x):AXI x=us:=by
 grind[AS3,De,Ka]
theorem AE6{us:List U}{x:Aa}(h:tH us=some x):AF8 x=us:=by
 unfold tH at h;obtain⟨a0,g,rfl,a⟩:=JF h;obtain⟨c,j,rfl,e⟩:=De a
 grind[De,Ka]
theorem AE4{us:List U}{x:AN}(h:tF us=some x):AF6 x=us:=by
 unfold tF at h;obtain⟨a0,q,rfl,a⟩:=De h;obtain⟨e,y,rfl,c⟩:=De a;obtain⟨g,B,rfl,j⟩:=De c
 grind[De,Ka]
theorem ABk{us:List U}{x:BE}(h:jI us=some x):vW x=us:=by
 grind[jI,De,Ka]
theorem AE1{us:List U}{x:Af}(h:s9 us=some x):AF3 x=us:=by
 grind[s9,De,Ka]
theorem AS2{us:List U}{x:BH}(h:AS1 us=some x):AXH x=us:=by
 grind[AS1,De,Ka]
theorem AE8{us:List U}{x:A0}(h:tJ us=some x):AGA x=us:=by
 grind[tJ,JF,Ka]
theorem AE0{us:List U}{x:Ab}(h:s8 us=some x):AF2 x=us:=by
 unfold s8 at h
 grind[De,JF,Ka]
theorem AE3{us:List U}{x:AE}(h:tE us=some x):AF5 x=us:=by
 unfold tE at h;obtain⟨a0,L,rfl,a⟩:=JF h;obtain⟨B,O,rfl,c⟩:=De a;obtain⟨E,Q,rfl,e⟩:=De c;obtain⟨a3,S,rfl,g⟩:=De e;obtain⟨a4,X,rfl,j⟩:=De g;obtain⟨G,Y,rfl,q⟩:=De j;obtain⟨H,Z,rfl,y⟩:=De q;obtain⟨I,u7,rfl,J⟩:=De y
 grind[De,JF,Ka]
theorem ALD{us:List U}{x:Bl}(h:AEz us=some x):ANa x=us:=by
 grind[AEz,ZG,De,Ka]
theorem AE7{us:List U}{x:Bk}(h:tI us=some x):AF9 x=us:=by
 grind[tI,ZG,De,Ka]
theorem ABj{us:List U}{x:A7}(h:jH us=some x):vV x=us:=by
 unfold jH at h;obtain⟨a0,u0,rfl,I⟩:=JF h;obtain⟨a1,u1,rfl,J⟩:=De I;obtain⟨a2,u2,rfl,O⟩:=De J;obtain⟨a3,u3,rfl,Q⟩:=De O;obtain⟨a4,u4,rfl,S⟩:=De Q;obtain⟨a5,u5,rfl,X⟩:=De S;obtain⟨a6,u6,rfl,Y⟩:=De X;obtain⟨a7,u7,rfl,Z⟩:=De Y;obtain⟨a8,u8,rfl,h8⟩:=De Z;obtain⟨a9,u9,rfl,h9⟩:=De h8;obtain⟨q,u10,rfl,a⟩:=De h9;obtain⟨y,u11,rfl,c⟩:=JF a;obtain⟨B,u12,rfl,e⟩:=JF c;obtain⟨E,u13,rfl,g⟩:=JF e;obtain⟨G,u14,rfl,j⟩:=JF g;obtain⟨H,u15,rfl,L⟩:=ZG j
 grind[De,ZG,JF,Ka]
theorem AE5{us:List U}{x:Bz}(h:tG us=some x):AF7 x=us:=by
 grind[tG,De,JF,Ka]
theorem AE9{us:List U}{x:Bu}(h:tK us=some x):AGB x=us:=by
 unfold tK at h;obtain⟨a0,u0,rfl,Z⟩:=JF h;obtain⟨a1,u1,rfl,h1⟩:=De Z;obtain⟨a2,u2,rfl,h2⟩:=De h1;obtain⟨a3,u3,rfl,h3⟩:=De h2;obtain⟨a4,u4,rfl,h4⟩:=De h3;obtain⟨a5,u5,rfl,h5⟩:=De h4;obtain⟨a6,u6,rfl,h6⟩:=De h5;obtain⟨a7,u7,rfl,h7⟩:=De h6;obtain⟨a8,u8,rfl,h8⟩:=De h7;obtain⟨a9,u9,rfl,h9⟩:=De h8;obtain⟨G,u10,rfl,a⟩:=De h9;obtain⟨H,u11,rfl,c⟩:=JF a;obtain⟨I,u12,rfl,e⟩:=JF c;obtain⟨J,u13,rfl,g⟩:=JF e;obtain⟨L,u14,rfl,j⟩:=JF g;obtain⟨O,u15,rfl,q⟩:=ZG j;obtain⟨Q,u16,rfl,y⟩:=De q;obtain⟨S,u17,rfl,B⟩:=ZG y;obtain⟨X,u18,rfl,E⟩:=De B;obtain⟨Y,u19,rfl,h19⟩:=ZG E
 grind[De,JF,Ka]
theorem AS0{us:List U}{x:Cw}(h:ASz us=some x):AXG x=us:=by
 unfold ASz at h;obtain⟨a0,g,rfl,a⟩:=De h;obtain⟨c,j,rfl,e⟩:=De a
 grind[De,JF,Ka]
theorem AE2{us:List U}{x:Bv}(h:tC us=some x):AF4 x=us:=by
 grind[tC,De,ZG,Ka]
theorem AFA{us:List U}{x:DN}(h:tL us=some x):AGC x=us:=by
 grind[tL,JF,De,AYK,Ka]
theorem AFB{us:List U}{x:PX}(h:tM us=some x):AGD x=us:=by
 grind[tM,JF,De,Ka]
theorem ALE:∀{n:Nat} {us:List U} {x:tD n},ofS n us=some x->AC1 n x=us
 |0,us,x,h=>AS4 h|1,us,x,h=>AE6 h|2,us,x,h=>AE4 h|3,us,x,h=>ABk h|4,us,x,h=>AE1 h|5,us,x,h=>AS2 h|6,us,x,h=>AE8 h|7,us,x,h=>AE0 h|8,us,x,h=>AE3 h|9,us,x,h=>ALD h|10,us,x,h=>AE7 h|11,us,x,h=>ABj h|12,us,x,h=>AE5 h|13,us,x,h=>AE9 h|14,us,x,h=>AS0 h|15,us,x,h=>AE2 h|16,us,x,h=>AFA h|17,us,x,h=>AFB h|_+18,us,x,h=>by cases h
theorem Rr{α:Type}{us:List U}{f:U->Option α}{r:α}(h:of1 us f=some r):∃u,us=[u]/\f u=some r:=by
 match us,h with
 | [u],h=>exact⟨u,rfl,h⟩
theorem ACf:∀{n:Nat} {us:List U} {x:Unit},MI n us=some x->us=List.replicate n .un|0,[],_,_=>rfl|n+1,.un::us,x,h=>by rw[List.replicate_succ,<-ACf (n:=n) (x:=x) (by simpa only[MI] using h)]|0,_::_,_,h=>by simp[MI]at h|n+1,[],_,h=>by simp[MI]at h|n+1,.int _ _::_,_,h=>by simp[MI]at h|n+1,.top::_,_,h=>by simp[MI]at h|n+1,.u8 _::_,_,h=>by simp[MI]at h|n+1,.bool _::_,_,h=>by simp[MI]at h|n+1,.str _::_,_,h=>by simp[MI]at h|n+1,.nil::_,_,h=>by simp[MI]at h|n+1,.np::_,_,h=>by simp[MI]at h|n+1,.sl _ _::_,_,h=>by simp[MI]at h|n+1,.mp _::_,_,h=>by simp[MI]at h
theorem YZ:∀{c:C} {us:List U} {x:c.D},ofC c us=some x->cells c x=us
 |.i,us,x,h=>by obtain⟨u,rfl,h⟩:=Rr h;obtain rfl:=AU5 h;rfl
 |.u,us,x,h=>by obtain⟨u,rfl,h⟩:=Rr h;obtain rfl:=AY7 h;rfl
 |.b,us,x,h=>by obtain⟨u,rfl,h⟩:=Rr h;obtain rfl:=AJ2 h;rfl
 |.s,us,x,h=>by obtain⟨u,rfl,h⟩:=Rr h;obtain rfl:=AU7 h;rfl
 |.ki k,us,x,h=>by obtain⟨u,rfl,h⟩:=Rr h;obtain rfl:=AY6 h;rfl
 |.m,us,x,h=>by obtain⟨u,rfl,h⟩:=Rr h;obtain rfl:=AY5 h;rfl
 |.z,us,x,h=>by obtain⟨u,rfl,h⟩:=Rr h;obtain rfl:=AY8 h;rfl
 |.l c,us,x,h=>by obtain⟨u,rfl,h⟩:=Rr h;obtain rfl:=AU6 h;rfl
 |.st n,us,x,h=>ALE h|.un n,us,x,h=>(ACf (show MI n us=some x from h)).symm
theorem ID{c:C}{us:List U}{x:c.D}(h:ofC c us=some x):enc c x=us.map U.fg:=by rw[E2,YZ h]
theorem XD:∀(c:C) (x:c.D),(cells c x).length=c.size
 |.i,x=>rfl|.u,x=>rfl|.b,x=>rfl|.s,x=>rfl|.m,x=>rfl|.ki _,x=>rfl|.z,x=>rfl|.l c,xs=>rfl|.un n,x=>List.length_replicate|.st n,x=>by
  match n,x with
  |0,x=>rfl|1,x=>rfl|2,x=>rfl|3,x=>rfl|4,x=>rfl|5,x=>rfl|6,x=>rfl|7,x=>rfl|8,x=>rfl|9,x=>rfl|10,x=>rfl|11,x=>rfl|12,x=>rfl|13,x=>rfl|14,x=>rfl|15,x=>rfl|16,x=>rfl|17,x=>rfl|_+18,x=>rfl
theorem Nc(c:C)(x:c.D):(enc c x).length=c.size:=by rw[E2,Aj,XD]
theorem AWX{c:C}{us:List U}{x:c.D}(h:ofC c us=some x):us.length=c.size:=by rw[<-YZ h,XD]
def Cap.fg:Cap->AS|.t x=>.t x.fg|.vw k c xs=>.vw (.old k) c.size (xs.map (enc c))|.vp k cs=>.vp (.old k) (cs.map U.fg)|.bp id off=>.bp id off
namespace Y
section
variable(R:List GF)
def xr(n:Nat):CF:=match R[n]? with|some g=>g.x|none=>.Ll 0 []
def ME(rows:List (List T)):List (Nat×Nat)->List (List T)| []=>rows|(i,j)::hs=>ME (Ie rows i j .top) hs
def AS.fg:AS->Lv.AS|.t x=>.t x.fg|.und=>.und|.ow x=>.ow x.fg|.owh c xs hs=>.ow (.sl c.size (ME (xs.map (enc c)) hs))|.al r sub=>.al r sub|.ep r i j=>.ep r i.toNat j|.vw s c xs=>.vw s c.size (xs.map (enc c))|.vp s cs=>.vp s (cs.map U.fg)|.bp id off=>.bp id off|.fn n caps=>.fn (xr R n) (caps.map Cap.fg)
def Ent.fg(e:Ent):Lv.Ent:=⟨e.sh,e.cs.map (AS.fg R)⟩
def En.fg(e:En):Lv.Ent:=⟨e.sh,e.cs.map (AS.fg R)⟩
def fgE(l:List (Nat×Ent)):List (Nat×Lv.Ent):=l.map fun p=>(p.1,p.2.fg R)
def fgB(l:List (Nat×Bx)):List (Nat×List Lv.AS):=l.map fun p=>(p.1,p.2.cs.map (AS.fg R))
def St.fg(S:St):Lv.St:=⟨fgE R S.tm,fgB R S.bx,S.pin⟩
theorem mem_iff{k:Nat}{ks:List Nat}:mem k ks=true↔k∈ks:=by
 induction ks with
 |nil=>simp[mem]|cons x xs a=>
  simp only[mem,List.mem_cons];by_cases h:k=x
  .subst h;simp
  grind[Nat.beq,Nat.eq_of_beq_eq_true]
theorem Mg{k:Nat}{ks:List Nat}:mem k ks=false↔k∉ks:=by
 rw[<-mem_iff];cases mem k ks<;>simp
theorem beq_true{a b:Nat}(h:Nat.beq a b=true):a=b:=Hp h
theorem beq_false{a b:Nat}(h:Nat.beq a b=false):a≠b:=HW h
theorem get_eq{α:Type}:∀(l:List (Nat×α)) (k:Nat),get l k=Lv.get l k
 | [],_=>rfl|(j,a)::r,k=>by
  simp only[get,Lv.get];cases h:Nat.beq j k with
  |true=>rw[AX (beq_true h)]|false=>rw[AU (beq_false h),get_eq r k]
theorem AFT{α:Type}:∀(l:List (Nat×α)) (k:Nat) (a:α),put l k a=Lv.put l k a
 | [],_,_=>rfl|(j,b)::r,k,a=>by
  simp only[put,Lv.put];cases h:Nat.beq k j with
  |true=>rw[AX (beq_true h)]|false=>
   rw[AU (beq_false h)];have g:=beq_false h;cases c:Nat.ble k j with
   |true=>have:=Nat.le_of_ble_eq_true c;rw[AX (by omega)]
   |false=>have:¬k<=j:=fun e=>by rw[Nat.ble_eq_true_of_le e]at c;cases c
           rw[AU (by omega),AFT r k a]
theorem gk{α:Type}(ks:List Nat):∀(l:List (Nat×α)),JD ks l=Lv.JD ks l
 | []=>rfl|(j,b)::r=>by
  simp only[JD,Lv.JD];cases h:mem j ks with
  |true=>rw[AX (mem_iff.1 h),gk ks r]|false=>rw[AU (Mg.1 h),gk ks r]
theorem YM{α:Type}(ks:List Nat):∀(l:List (Nat×α)),GC ks l=Lv.GC ks l
 | []=>rfl|(j,b)::r=>by
  simp only[GC,Lv.GC];cases h:mem j ks with
  |true=>rw[AX (mem_iff.1 h),YM ks r]|false=>rw[AU (Mg.1 h),YM ks r]
theorem get_map{α β:Type}(f:α->β):∀(l:List (Nat×α)) (k:Nat),Lv.get (l.map fun p=>(p.1,f p.2)) k=(Lv.get l k).map f
 | [],_=>rfl|(j,a)::r,k=>by
  simp only[AJ,Lv.get];by_cases h:j=k
  .simp[h]
  .simp[h,get_map f r k]
theorem tq{α β:Type}(f:α->β):∀(l:List (Nat×α)) (k:Nat) (a:α),Lv.put (l.map fun p=>(p.1,f p.2)) k (f a)=(Lv.put l k a).map fun p=>(p.1,f p.2)
 | [],_,_=>rfl|(j,b)::r,k,a=>by
  simp only[AJ,Lv.put];by_cases h:k=j
  .simp[h]
  .by_cases c:k<j
   .simp[h,c]
   .simp[h,c,tq f r k a]
theorem XX{α β:Type}(f:α->β)(ks:List Nat):∀(l:List (Nat×α)),Lv.JD ks (l.map fun p=>(p.1,f p.2))=(Lv.JD ks l).map fun p=>(p.1,f p.2)
 | []=>rfl|(j,b)::r=>by
  simp only[AJ,Lv.JD];by_cases h:j∈ks
  .simp[h,XX f ks r]
  .simp[h,XX f ks r]
theorem P7{α β:Type}(f:α->β)(ks:List Nat):∀(l:List (Nat×α)),Lv.GC ks (l.map fun p=>(p.1,f p.2))=(Lv.GC ks l).map fun p=>(p.1,f p.2)
 | []=>rfl|(j,b)::r=>by
  simp only[AJ,Lv.GC];by_cases h:j∈ks
  .simp[h,P7 f ks r]
  .simp[h,P7 f ks r]
variable {R}
theorem Vx(S:St)(k:Nat):Lv.get (S.fg R).tm k=(get S.tm k).map (Ent.fg R):=by rw[get_eq];exact get_map (Ent.fg R) S.tm k
theorem Ol(S:St)(k:Nat):Lv.get (S.fg R).bx k=(get S.bx k).map (fun b=>b.cs.map (AS.fg R)):=by rw[get_eq];exact get_map (fun b:Bx=>b.cs.map (AS.fg R)) S.bx k
end
end Y
end Lv
namespace Lv
open Go (IntKind BinOp UnOp)
namespace Y
section
variable{R:List GF}
theorem CE.ASe(r r':CE):CE.is r r'=decide (r=r'):=by
 have c:∀a b:Nat,Nat.beq a b=decide (a=b):=fun a b=>by
  grind[Nat.beq,beq_true,beq_false]
 cases r<;>cases r'<;>simp only[CE.is,CE.tmp.injEq,CE.cell.injEq,reduceCtorEq,decide_false]
 .grind
 grind
theorem YJ(o:Option CE)(r:CE):isR o r=decide (o=some r):=by
 cases o with
 |none=>simp[isR]|some q=>simp[isR,CE.ASe]
theorem Pe(a b:Nat):Nat.beq a b=decide (a=b):=by
 grind[Nat.beq,beq_true,beq_false]
theorem AYP(o:Option Nat)(r:Nat):isN o r=decide (o=some r):=by
 cases o with
 |none=>simp[isN]|some q=>simp[isN,Pe]
theorem Se(k:Nat)(ks:List Nat):mem k ks=decide (k∈ks):=by
 grind[mem,mem_iff,Mg]
@[simp] theorem KH(l:AS):(AS.fg R l).By=l.By:=by
 cases l<;>try rfl
 .rename_i s c xs;cases s<;>rfl
 .rename_i s cs;cases s<;>rfl
@[simp] theorem ANW(l:AS):(AS.fg R l).LF=l.LF:=by
 cases l<;>try rfl
 .rename_i r sub;cases r<;>rfl
 .rename_i r i j;cases r<;>rfl
 .rename_i s c xs;cases s with
  |own r p=>cases r<;>rfl
  |old k=>rfl
 .rename_i s cs;cases s with
  |own r p=>cases r<;>rfl
  |old k=>rfl
@[simp] theorem ACz(l:Cap):l.fg.LF=l.LF:=by cases l<;>rfl
theorem Yx(l:Cap):AS.fg R l.leaf=l.fg:=by cases l<;>rfl
theorem ALG(r:CE)(l:AS):Lv.Kv r (AS.fg R l)=Kv r l:=by simp[Lv.Kv,Kv,YJ]
theorem QE(r:CE)(l:AS):Lv.E5 r (AS.fg R l)=E5 r l:=by
 cases l<;>try rfl
 .rename_i s c xs;cases s with|own r p=>simp[AS.fg,Lv.E5,E5,CE.ASe]|old k=>rfl
 .rename_i s cs;cases s with|own r p=>simp[AS.fg,Lv.E5,E5,CE.ASe]|old k=>rfl
theorem WL(d:Nat)(l:AS):Lv.Ec d (AS.fg R l)=Ec d l:=by
 grind[Lv.Ec,Ec,KH,Pe]
theorem WK(d:Nat)(l:AS):Lv.FO d (AS.fg R l)=FO d l:=by
 have h:=ANW (R:=R) l;cases l<;>simp only[AS.fg]at h ⊢ <;> simp only[Lv.FO,FO,AYP]<;>first|rw[h]|skip
 simp[HA,Function.comp_def]
theorem AYj(ks:List Nat)(o:Option Nat):(match o with|some d=>decide (d∉ks)|none=>false)=(match o with|some d=>!mem d ks|none=>false):=by
 grind[Se]
theorem ALF(ks:List Nat)(l:AS):Lv.Ku ks (AS.fg R l)=Ku ks l:=by
 have h:=ANW (R:=R) l;cases l with
 |fn n caps=>
  simp only[AS.fg,Lv.Ku,Ku,HA,Function.comp_def,ACz];congr 1;funext x;exact AYj ks _
 |_=>
  grind[AS.fg,Lv.Ku,Ku,AS.LF,Se]
theorem jG(ks:List Nat)(l:AS):Lv.IC ks (AS.fg R l)=IC ks l:=by
 grind[Lv.IC,IC,KH,ALF,Se]
theorem AJM(ks:List Nat)(l:AS):Lv.YG ks (AS.fg R l)=YG ks l:=by
 grind[Lv.YG,YG,KH,Se]
theorem LQ{q:AS->Bool}{q':Lv.AS->Bool}(a:∀l,q' (AS.fg R l)=q l):∀ls,Lv.EA q' (ls.map (AS.fg R))=(EA q ls).map (AS.fg R)
 | []=>rfl|l::ls=>by
  simp only[AJ,Lv.EA,EA,a,LQ a ls];cases q l<;>rfl
theorem T5{q:AS->Bool}:∀{ls:List AS},ls.any q=false->EA q ls=ls
 | [],_=>rfl|l::ls,h=>by
  simp only[List.any_cons,Bool.or_eq_false_iff]at h;simp only[EA,h.1,Bool.false_eq_true,if_false,T5 h.2]
theorem WH{q:AS->Bool}{q':Lv.AS->Bool}(a:∀l,q' (AS.fg R l)=q l)(v:Nat):∀ls,Lv.Kc q' (fgE R ls)=fgE R (Kc v q ls)
 | []=>rfl|(k,e)::ls=>by
  have c:=WH a v ls;simp only[fgE,AJ,Lv.Kc,Kc]at c ⊢;rw[c];congr 2;simp only[Ent.fg];cases h:e.cs.any q with
  |true=>simp only[if_true,LQ a]|false=>rw[AU (by simp),LQ a,T5 h]
theorem WG{q:AS->Bool}{q':Lv.AS->Bool}(a:∀l,q' (AS.fg R l)=q l)(v:Nat):∀ls,Lv.Kb q' (fgB R ls)=fgB R (Kb v q ls)
 | []=>rfl|(k,e)::ls=>by
  have c:=WG a v ls;simp only[fgB,AJ,Lv.Kb,Kb]at c ⊢;rw[c];congr 2;cases h:e.cs.any q with
  |true=>simp only[if_true,LQ a]|false=>rw[AU (by simp),LQ a,T5 h]
theorem J7{q:AS->Bool}{q':Lv.AS->Bool}(a:∀l,q' (AS.fg R l)=q l)(S:St):(S.fg R).kill q'=(S.kill q).fg R:=by
 simp only[St.fg,Lv.St.kill,St.kill,WH a S.nv,WG a S.nv]
theorem K9(S:St)(d:Nat)(sh:Sh)(cs:List AS):(S.JX d sh cs).fg R={ S.fg R with tm:=Lv.put (S.fg R).tm d ⟨sh,cs.map (AS.fg R)⟩}:=by
 simp only[St.fg,St.JX,AFT,fgE];rw[<-tq (Ent.fg R)];rfl
theorem Sn(S:St)(d:Nat)(cs:List AS):(S.NT d cs).fg R={ S.fg R with bx:=Lv.put (S.fg R).bx d (cs.map (AS.fg R))}:=by
 simp only[St.fg,St.NT,AFT,fgB];rw[<-tq (fun b:Bx=>b.cs.map (AS.fg R))]
theorem AAu(S:St)(ks:List Nat):(S.Hq ks).fg R=(S.fg R).Hq ks:=by
 simp only[St.fg,Lv.St.Hq,St.Hq,gk];rw[<-WH (AJM ks),<-WG (AJM ks)];simp only[fgE];rw[<-XX]
theorem Ud(S:St)(ks:List Nat):(S.clean ks).fg R=(S.fg R).clean ks:=by
 simp only[St.fg,Lv.St.clean,St.clean,YM];rw[<-WH (jG ks),<-WG (jG ks)];simp only[fgE,fgB];rw[<-P7,<-P7 (fun b:Bx=>b.cs.map (AS.fg R))]
theorem JC(S:St)(r:CE):(S.fg R).at r=(S.at r).map (AS.fg R):=by
 cases r with
 |tmp s c=>
  grind[Lv.St.at,St.at,Vx,get,Ent.fg]
 |cell s c=>
  grind[Lv.St.at,St.at,Ol,get]
theorem GH(S:St)(r:CE)(l:AS):(S.Bf r l).fg R=(S.fg R).Bf r (AS.fg R l):=by
 cases r with
 |tmp s c=>
  simp only[Lv.St.Bf,St.Bf,Vx];cases h:get S.tm s with
  |none=>rfl|some e=>simp[K9,Ent.fg]
 |cell s c=>
  simp only[Lv.St.Bf,St.Bf,Ol];cases h:get S.bx s with
  |none=>rfl|some e=>simp[Sn]
theorem ADI{l:AS}:AS.fg R l=.t .nil↔l=.t .nil:=by
 cases l<;>simp[AS.fg];rename_i x;cases x<;>simp[U.fg]
theorem AYg(S:St)(r:CE)(c:C):AS.fg R (S.nl0 r c)=(S.fg R).nl0 r c.size:=by
 cases r with
 |tmp s k=>rfl|cell id k=>
  simp only[St.nl0,Lv.St.nl0,Se];have a:(S.fg R).pin=S.pin:=rfl
  grind[AS.fg,U.fg]
def Rw.fg:Rw->List (List T)|.nl=>[]|.of c xs=>xs.map (enc c)
theorem Th{x:U}{w:Rw}(h:content x=some w):Lv.content x.fg=some w.fg:=by
 cases x<;>simp[content]at h<;>subst h<;>rfl
theorem Ym{α β:Type}(f:α->β)(sub:Option (Nat×Nat))(xs:List α):(kE sub xs).map f=kE sub (xs.map f):=by
 cases sub with
 |none=>rfl|some p=>simp[kE]
theorem uf(sub:Option (Nat×Nat))(xs:List (List T)):I7 sub xs=kE sub xs:=by cases sub<;>rfl
theorem AUs(sub:Option (Nat×Nat))(w:Rw):(w.sub sub).fg=I7 sub w.fg:=by
 cases w with
 |nl=>cases sub<;>simp[Rw.sub,Rw.fg,I7]
 |of c xs=>simp only[Rw.sub,Rw.fg,Ym,uf]
theorem ak{c:C}{w:Rw}{ys:List c.D}(h:w.as c=some ys):w.fg=ys.map (enc c):=by
 cases w with
 |nl=>cases h;rfl
 |of e xs=>
  simp only[Rw.as]at h;split at h
  .rename_i a;subst a;cases h;rfl
  .cases h
theorem Wt(sub:Option (Nat×Nat))(x:U):(AFl sub x).fg=lC sub x.fg:=by
 cases x<;>try rfl
 simp only[AFl,U.fg,lC,Ym,uf]
theorem Oj{S:St}{l:AS}{w:Rw}(h:S.elems l=some w):(S.fg R).elems (AS.fg R l)=some w.fg:=by
 unfold St.elems at h;split at h
 .grind[AS.fg,Lv.St.elems,JC,Th,AUs]
 .cases h;rfl
 .cases h;rfl
 .cases h
theorem AXs(s c:Nat)(l:AS):AS.fg R (l.ali s c)=(AS.fg R l).ali s c:=by cases l<;>rfl
theorem o6(s:Nat):∀(c:Nat) (ls:List AS),(Qq s c ls).map (AS.fg R)=Lv.Qq s c (ls.map (AS.fg R))|_,[]=>rfl|c,l::ls=>by simp only[Qq,AJ,Lv.Qq,AXs,o6 s (c+1) ls]
theorem AFu(b:Nat):∀(c:Nat) (ls:List AS),(PZ b c ls).map (AS.fg R)=Lv.PZ b c (ls.map (AS.fg R))
 |_,[]=>rfl|c,l::ls=>by
  have a:=AFu b (c+1) ls;cases l<;>simp only[PZ,AJ,AS.fg,Lv.PZ,a]
theorem ASk(x:U):AS.fg R (nX x)=Lv.nX x.fg:=by cases x<;>rfl
def YO.er(R:List GF):YO->Opd|.tmp t=>.tmp t|.k x=>.k x.fg|.fn n=>.fn (xr R n)
theorem Ke{S:St}{x:YO}{e:En}(h:S.rd x=some e):(S.fg R).rd (x.er R)=some (e.fg R):=by
 cases x with
 |tmp s=>
  grind[St.rd,YO.er,Lv.St.rd,Vx,get,Ent.fg,En.fg,o6]
 |k x=>cases h;simp[YO.er,Lv.St.rd,En.fg,ASk]
 |fn n=>cases h;rfl
theorem Yh{S:St}:∀{xs:List YO} {es:List En},S.rds xs=some es->(S.fg R).rds (xs.map (YO.er R))=some (es.map (En.fg R))
 | [],es,h=>by cases h;rfl
 |x::xs,es,h=>by
  simp only[St.rds]at h;split at h
  .rename_i e a c g;cases h;simp only[AJ,Lv.St.rds,Ke c,Yh g]
  .cases h
structure BT(S S':St):Prop where
 nv:S.nv<=S'.nv
 tm:∀k e,get S'.tm k=some e->e.ver<S.nv->get S.tm k=some e
 bx:∀k e,get S'.bx k=some e->e.ver<S.nv->get S.bx k=some e
 pin:S'.pin=S.pin
theorem BT.refl(S:St):BT S S:=⟨Nat.le_refl _,fun _ _ h _=>h,fun _ _ h _=>h,rfl⟩
theorem BT.trans{S S' S2:St}(h:BT S S')(c:BT S' S2):BT S S2:=
 ⟨Nat.le_trans h.nv c.nv,fun k e g a=>h.tm k e (c.tm k e g (BP a h.nv)) a,fun k e g a=>h.bx k e (c.bx k e g (BP a h.nv)) a,c.pin.trans h.pin⟩
theorem FW{α:Type}(l:List (Nat×α))(k j:Nat)(a:α):get (put l k a) j=if j=k then some a else get l j:=by
 induction l with
 |nil=>
  by_cases h:j=k
  .subst h;simp[put,get]
  grind[put,get,Nat.beq,beq_true]
 |cons p r c=>
  grind[put,Nat.beq,beq_true,get,beq_false,Nat.ble]
theorem BT.JX(S:St)(d:Nat)(sh:Sh)(cs:List AS):BT S (S.JX d sh cs):=by
 refine⟨by simp[St.JX],fun k e a c=>?_,fun k e a _=>a,rfl⟩
 grind[St.JX,FW]
theorem BT.NT(S:St)(d:Nat)(cs:List AS):BT S (S.NT d cs):=by
 refine⟨by simp[St.NT],fun k e a _=>a,fun k e a c=>?_,rfl⟩
 grind[St.NT,FW]
theorem Em{v:Nat}{q:AS->Bool}:∀{l:List (Nat×Ent)} {k:Nat} {e:Ent},get (Kc v q l) k=some e->e.ver<v->get l k=some e
 | [],_,_,h,_=>h|(i,b)::r,k,e,h,c=>by
  simp only[Kc,get]at h ⊢;cases a:Nat.beq i k with
  |true=>
   grind[Option.some.injEq]
  |false=>rw[a]at h;exact Em h c
theorem DE{v:Nat}{q:AS->Bool}:∀{l:List (Nat×Bx)} {k:Nat} {e:Bx},get (Kb v q l) k=some e->e.ver<v->get l k=some e
 | [],_,_,h,_=>h|(i,b)::r,k,e,h,c=>by
  simp only[Kb,get]at h ⊢;cases a:Nat.beq i k with
  |true=>
   grind[Option.some.injEq]
  |false=>rw[a]at h;exact DE h c
theorem Ko{α:Type}{ks:List Nat}:∀{l:List (Nat×α)} {k:Nat} {e:α},get (JD ks l) k=some e->get l k=some e
 | [],_,_,h=>h|(i,b)::r,k,e,h=>by
  simp only[JD]at h;simp only[get];cases y:mem i ks with
  |true=>
   rw[y]at h;cases a:Nat.beq i k with
   |true=>
    have q:=beq_true a;subst q;exfalso;have:∀(l:List (Nat×α)) (e:α),get (JD ks l) i≠some e:=by
     intro l
     induction l with
     |nil=>intro e h;cases h
     |cons p r E=>
      intro e h;obtain⟨j,c⟩:=p;simp only[JD]at h;cases g:mem j ks with
      |true=>rw[g]at h;exact E e h|false=>
       rw[g]at h;simp only[get]at h;cases B:Nat.beq j i with
       |true=>have:=beq_true B;subst this;rw[y]at g;cases g
       |false=>rw[B]at h;exact E e h
    exact this r e h
   |false=>exact Ko h
  |false=>
   rw[y]at h;simp only[get]at h;cases a:Nat.beq i k with
   |true=>rw[a]at h;exact h|false=>rw[a]at h;exact Ko h
theorem Gu{α:Type}{ks:List Nat}:∀{l:List (Nat×α)} {k:Nat} {e:α},get (GC ks l) k=some e->get l k=some e
 | [],_,_,h=>h|(i,b)::r,k,e,h=>by
  simp only[GC]at h;simp only[get];cases y:mem i ks with
  |false=>
   rw[y]at h;cases a:Nat.beq i k with
   |true=>
    have q:=beq_true a;subst q;exfalso;have:∀(l:List (Nat×α)) (e:α),get (GC ks l) i≠some e:=by
     intro l
     induction l with
     |nil=>intro e h;cases h
     |cons p r E=>
      intro e h;obtain⟨j,c⟩:=p;simp only[GC]at h;cases g:mem j ks with
      |false=>rw[g]at h;exact E e h|true=>
       rw[g]at h;simp only[get]at h;cases B:Nat.beq j i with
       |true=>have:=beq_true B;subst this;rw[y]at g;cases g
       |false=>rw[B]at h;exact E e h
    exact this r e h
   |false=>exact Gu h
  |true=>
   rw[y]at h;simp only[get]at h;cases a:Nat.beq i k with
   |true=>rw[a]at h;exact h|false=>rw[a]at h;exact Gu h
theorem BT.kill(S:St)(q:AS->Bool):BT S (S.kill q):=
 ⟨by simp[St.kill],fun _ _ a c=>Em a c,fun _ _ a c=>DE a c,rfl⟩
theorem BT.Hq(S:St)(ks:List Nat):BT S (S.Hq ks):=
 ⟨by simp[St.Hq],fun _ _ a c=>Ko (Em a c),fun _ _ a c=>DE a c,rfl⟩
theorem BT.clean(S:St)(ks:List Nat):BT S (S.clean ks):=
 ⟨by simp[St.clean],fun _ _ a c=>Gu (Em a c),fun _ _ a c=>Gu (DE a c),rfl⟩
theorem BT.Bf(S:St)(r:CE)(l:AS):BT S (S.Bf r l):=by
 cases r<;>simp only[St.Bf]<;>split<;>first|exact BT.JX _ _ _ _|exact BT.NT _ _ _|exact BT.refl _
theorem BT.out(S:St)(r:CE):BT S (S.out r):=(BT.Bf _ _ _).trans (BT.kill _ _)
theorem BT.YX(S:St)(r:CE)(c:C):BT S (S.YX r c):=by
 unfold St.YX St.turn
 repeat' split
 all_goals first|exact BT.refl _|exact BT.Bf _ _ _|exact((BT.out _ _).trans (BT.Bf _ _ _)).trans (BT.Bf _ _ _)
theorem BT.QC:∀(ns:List (CE×C)) (S:St),BT S (S.QC ns)| [],S=>BT.refl S|(r,c)::ns,S=>(BT.YX S r c).trans (BT.QC ns _)
theorem Fz{γ:Type}(n:Nat)(K:Nat->γ):DG n K=K n:=by cases n<;>rfl
theorem U.Eg{γ:Type}(x:U)(K:U->γ):x.FV K=K x:=by cases x<;>rfl
theorem g9{γ:Type}:∀(xs:List U) (K:List U->γ),aN xs K=K xs| [],K=>rfl|x::xs,K=>by simp only[aN,U.Eg,g9 xs]
theorem nL{γ:Type}(r:CE)(K:CE->γ):gy r K=K r:=by cases r<;>simp only[gy,Fz]
theorem AA6{γ:Type}(r:Src)(K:Src->γ):RQ r K=K r:=by
 cases r with
 |own r p=>simp only[RQ,nL];cases p with|none=>rfl|some p=>obtain⟨i,j⟩:=p;simp only[Fz]
 |old k=>simp only[RQ,Fz]
theorem AS.Eg{γ:Type}(x:AS)(K:AS->γ):x.FV K=K x:=by
 cases x<;>simp only[AS.FV,U.Eg,nL,Fz,AA6,g9]
 grind
theorem Pp{γ:Type}:∀(xs:List AS) (K:List AS->γ),SZ xs K=K xs| [],K=>rfl|x::xs,K=>by simp only[SZ,AS.Eg,Pp xs]
theorem Tr{γ:Type}:∀(xs:List (Option Nat)) (K:List (Option Nat)->γ),Sa xs K=K xs| [],K=>rfl|none::xs,K=>by simp only[Sa,Tr xs]|some n::xs,K=>by simp only[Sa,Fz,Tr xs]
theorem gz{γ:Type}(x:Sh)(K:Sh->γ):aM x K=K x:=by cases x<;>simp only[aM,Tr,Fz]
theorem nJ{γ:Type}:∀(xs:List (Nat×Ent)) (K:List (Nat×Ent)->γ),qS xs K=K xs| [],K=>rfl|(k,⟨sh,cs,v⟩)::xs,K=>by simp only[qS,gz,Pp,Fz,nJ xs]
theorem nI{γ:Type}:∀(xs:List (Nat×Bx)) (K:List (Nat×Bx)->γ),qR xs K=K xs| [],K=>rfl|(k,⟨cs,v⟩)::xs,K=>by simp only[qR,Pp,Fz,nI xs]
theorem nK{γ:Type}:∀(xs:List Nat) (K:List Nat->γ),qT xs K=K xs| [],K=>rfl|k::xs,K=>by simp only[qT,nK xs]
theorem Eg{γ:Type}(S:St)(K:St->γ):S.FV K=K S:=by
 obtain⟨tm,bx,pin,nv⟩:=S;simp only[St.FV,nJ,nI,nK,Fz]
theorem AJg{α γ:Type}(s:Nat)(a:α):∀(l:List (Nat×α)) (K:List (Nat×α)->γ),AWj s a l K=K (put l s a)
 | [],K=>rfl|(k,b)::r,K=>by
  simp only[AWj,put];cases Nat.beq s k with
  |true=>rfl|false=>cases Nat.ble s k with|true=>rfl|false=>simp only[AJg s a r]
variable{ρ:Type}
theorem aX{S:St}{d:Nat}{sh:Sh}{cs:List AS}{K:St->Option ρ}{r:ρ}(h:G8 S d sh cs K=some r) :
 ∃S',(S.fg R).Ds d ⟨sh,cs.map (AS.fg R)⟩=some (S'.fg R)/\BT S S'/\K S'=some r:=by
 unfold G8 at h;cases c:mem d S.pin with
 |true=>rw[c]at h;cases h
 |false=>
  rw[c]at h;have g:d∉(S.fg R).pin:=Mg.1 c;cases a:get S.tm d with
  |none=>
   rw[a]at h;simp only[gz,Pp,Fz,AJg]at h;refine⟨S.JX d sh cs,?_,BT.JX _ _ _ _,h⟩
   grind[K9,Lv.St.Ds,Vx]
  |some e=>
   rw[a]at h;simp only[Eg]at h;refine⟨_,?_,(BT.kill _ _).trans (BT.JX _ _ _ _),h⟩;unfold Lv.St.Ds;rw[AU g,Vx,a,K9,<-J7 (WL d),<-LQ (WL d)];rfl
end
end Y
end Lv
namespace Lv
open Go (IntKind BinOp UnOp)
namespace Y
section
variable{R:List GF}
theorem AWL(l:AS):Lv.sg (AS.fg R l)=sg l:=by cases l<;>rfl
theorem AUb(a b:Option CE):(match a with|some r=>isR b r|none=>b.isNone)=decide (a=b):=by
 cases a with
 |none=>cases b<;>simp
 |some r=>simp only[YJ];rw[decide_eq_decide];exact eq_comm
theorem oQ:∀ls:List AS,Lv.NQ (ls.map (AS.fg R))=NQ ls
 | []=>rfl|l::ls=>by
  simp only[AJ,Lv.NQ,NQ,oQ ls,Lt,Function.comp_def,AWL,KH];congr 1;refine congrArg (fun f=>List.all ls f) (funext fun l'=>?_);rw[<-AUb]<;>(cases l.By<;>rfl)
theorem UB(S:St)(r:CE):(S.out r).fg R=(S.fg R).out r:=by
 unfold St.out Lv.St.out;rw[<-J7 (ALG r),GH];rfl
theorem AW7(S:St)(r:CE):(S.turn r).fg R=(S.fg R).turn r:=by
 unfold St.turn Lv.St.turn;rw[JC];cases h:S.at r with
 |none=>rfl|some l=>
  cases l with
  |al r' sub=>
   cases sub with
   |none=>
    simp only[An,AS.fg];rw[JC];cases a:S.at r' with
    |none=>rfl|some l'=>cases l'<;>simp[AS.fg,GH,UB]
   |some p=>rfl
  |_=>rfl
theorem AWV(S:St)(r:CE)(c:C):(S.YX r c).fg R=(S.fg R).YX r c.size:=by
 unfold St.YX Lv.St.YX;cases a:Nat.beq c.size 0 with
 |true=>rw[AX (Hp a)];exact AW7 S r|false=>
  rw[AU (HW a),JC];cases h:S.at r with
  |none=>rfl|some l=>grind[AS.fg,U.fg,GH,AYg,ADI]
theorem s5:∀(ns:List (CE×C)) (S:St),(S.QC ns).fg R=(S.fg R).QC (ns.map fun p=>(p.1,p.2.size))| [],S=>rfl|(r,c)::ns,S=>by simp only[St.QC,AJ,Lv.St.QC];rw[s5 ns,AWV]
theorem kI:∀{ls:List AS} {S S':St} {ls':List AS},JL S ls=some (S',ls')->Lv.JL (S.fg R) (ls.map (AS.fg R))=some (S'.fg R,ls'.map (AS.fg R))/\BT S S'
 | [],S,S',ls',h=>by cases h;exact⟨rfl,BT.refl _⟩
 |l::ls,S,S',ls',h=>by
  have gen:(match JL S ls with|some (S',ls')=>some (S',l::ls')|none=>none)=some (S',ls') ->
   (match Lv.JL (S.fg R) (ls.map (AS.fg R)) with|some (S',ls')=>some (S',AS.fg R l::ls')|none=>none)=some (S'.fg R,ls'.map (AS.fg R))/\BT S S':=by
   intro h;split at h
   .rename_i S2 j c;cases h;obtain⟨a,e⟩:=kI c;rw[a];exact⟨rfl,e⟩
   .cases h
  cases l with
  |al r sub=>
   simp only[JL]at h;simp only[AJ,AS.fg,Lv.JL,JC];split at h
   .rename_i x g;rw[g];split at h
    .rename_i S2 j c;cases h;obtain⟨a,e⟩:=kI c;rw[UB]at a;simp only[An,AS.fg,a,AJ,Wt];exact⟨trivial,(BT.out _ _).trans e⟩
    .cases h
   .cases h
  |_=>exact gen h
theorem PO{ls:List AS}{S S':St}{ls':List AS}(h:Kf S ls=some (S',ls')):Lv.Kf (S.fg R) (ls.map (AS.fg R))=some (S'.fg R,ls'.map (AS.fg R))/\BT S S':=by
 grind[Kf,Lv.Kf,oQ,kI]
theorem AVe{x:YO}{ls:List AS}{S S':St}{ls':List AS}(h:pF S x ls=some (S',ls')):Lv.pF (S.fg R) (x.er R) (ls.map (AS.fg R))=some (S'.fg R,ls'.map (AS.fg R))/\BT S S':=by
 cases x with
 |tmp s=>
  unfold pF at h;unfold Lv.pF;simp only[YO.er];dsimp only at h;split at h
  .rename_i a;rw[AX (show s∈(S.fg R).pin from mem_iff.1 a)];cases h;exact⟨rfl,BT.refl _⟩
  .rename_i a;rw[AU (show s∉(S.fg R).pin from Mg.1 a)];exact PO h
 |k y=>exact PO h|fn n=>exact PO h
theorem ic(x:U):Lv.Qf x.fg=Qf x:=by cases x<;>rfl
theorem AWO(x:U):Lv.YK x.fg=YK x:=by cases x<;>rfl
theorem AKr(rows:List (List T)):∀(c:List (Nat×Nat)) (i j:Nat),ME rows (c++[(i,j)])=Ie (ME rows c) i j .top:=by
 intro c
 induction c generalizing rows with
 |nil=>intro i j;rfl
 |cons p c e=>intro i j;obtain⟨a,b⟩:=p;simp only[List.cons_append,ME];exact e _ i j
theorem AJf{S S':St}{r:CE}{i j:Nat}(h:S.pull r i j=some S'):(S.fg R).pull r i j=some (S'.fg R)/\BT S S':=by
 unfold St.pull at h;unfold Lv.St.pull;rw[JC];split at h
 .rename_i c xs a;cases h;rw[a];simp only[An,AS.fg,U.fg,AD];refine⟨?_,(BT.Bf _ _ _).trans (BT.kill _ _)⟩;rw[<-J7 (QE r),GH];rfl
 .rename_i c xs e a;cases h;rw[a];simp only[An,AS.fg,AD];refine⟨?_,(BT.Bf _ _ _).trans (BT.kill _ _)⟩;rw[<-J7 (QE r),GH];simp only[AS.fg,AKr]
 .cases h
theorem ATD(r:CE):∀ls:List AS,Lv.onR r (ls.map (AS.fg R))=onR r ls| []=>rfl|l::ls=>by simp only[AJ,Lv.onR,onR,KH,YJ,ATD r ls]
theorem K8:∀{ls:List AS} {S S':St} {us:List U},DX S ls=some (S',us)->Lv.DX (S.fg R) (ls.map (AS.fg R))=some (S'.fg R,us.map U.fg)/\BT S S'
 | [],S,S',us,h=>by cases h;exact⟨rfl,BT.refl _⟩
 |l::ls,S,S',us,h=>by
  cases l with
  |t x=>
   simp only[DX]at h;simp only[AJ,AS.fg,Lv.DX,ic];split at h
   .cases h
   .rename_i y;rw[AU y];split at h
    .rename_i S2 E e;cases h;obtain⟨a,g⟩:=K8 e;rw[a];exact⟨rfl,g⟩
    .cases h
  |al r sub=>
   simp only[DX]at h;simp only[AJ,AS.fg,Lv.DX,JC];split at h
   .rename_i x B;rw[B];split at h
    .rename_i S2 E e;cases h;obtain⟨a,g⟩:=K8 e;rw[UB]at a;simp only[An,AS.fg,a,AJ,Wt];exact⟨trivial,(BT.out _ _).trans g⟩
    .cases h
   .cases h
  |vw s c xs=>
   cases s with
   |old k=>cases h
   |own r p=>
    cases p with
    |none=>
     simp only[DX]at h;simp only[AJ,AS.fg,Lv.DX,JC];split at h
     .rename_i x B;rw[B];split at h
      .rename_i S2 E e;cases h;obtain⟨a,g⟩:=K8 e;rw[UB]at a;simp only[An,AS.fg,a,AJ,U.fg];exact⟨trivial,(BT.out _ _).trans g⟩
      .cases h
     .cases h
    |some q=>
     obtain⟨i,j⟩:=q;simp only[DX]at h;simp only[AJ,AS.fg,Lv.DX,ATD];split at h
     .cases h
     .rename_i y;rw[AU y];split at h
      .rename_i S1 G;obtain⟨H,I⟩:=AJf (R:=R) G;rw[H];split at h
       .rename_i S2 E e;cases h;obtain⟨a,g⟩:=K8 e;simp only[a,AJ,U.fg];exact⟨trivial,I.trans g⟩
       .cases h
      .cases h
  |_=>cases h
theorem AVE{S:St}{l:AS}{u:U}(h:S.G5 l=some u):(S.fg R).G5 (AS.fg R l)=some u.fg:=by
 cases l with
 |t x=>cases h;rfl
 |al r sub=>
  grind[St.G5,AS.fg,Lv.St.G5,JC,Wt]
 |vw s c xs=>cases h;rfl
 |ow x=>cases h;rfl
 |_=>cases h
theorem Sv{S:St}:∀{ls:List AS} {us:List U},S.Gz ls=some us->(S.fg R).Gz (ls.map (AS.fg R))=some (us.map U.fg)
 | [],us,h=>by cases h;rfl
 |l::ls,us,h=>by
  simp only[St.Gz]at h;split at h
  .rename_i x xs a c;cases h;simp only[AJ,Lv.St.Gz,AVE a,Sv c]
  .cases h
theorem ANT{k:Nat}{l:AS}{u:U}(h:OP k l=some u):Lv.OP k (AS.fg R l)=some u.fg:=by
 cases l with
 |t x=>cases h;rfl
 |vw s c xs=>
  cases s with
  |own r p=>cases h
  |old e=>
   simp only[OP]at h;simp only[AS.fg,Lv.OP];split at h
   .rename_i a;cases h;rw[AX a];rfl
   .cases h
 |_=>cases h
theorem OQ{k:Nat}:∀{ls:List AS} {us:List U},FI k ls=some us->Lv.FI k (ls.map (AS.fg R))=some (us.map U.fg)
 | [],us,h=>by cases h;rfl
 |l::ls,us,h=>by
  simp only[FI]at h;split at h
  .rename_i x xs a c;cases h;simp only[AJ,Lv.FI,ANT a,OQ c]
  .cases h
theorem NB:∀ls:List AS,Lv.DL (ls.map (AS.fg R))=DL ls
 | []=>rfl|l::ls=>by
  have a:=NB ls;cases l with
  |vw s c xs=>cases s with|old k=>rfl|own r p=>simpa[AS.fg,Lv.DL,DL] using a
  |_=>simpa[AS.fg,Lv.DL,DL] using a
theorem ASp(k:Nat)(u:U):AS.fg R (D6 k u)=Lv.D6 k u.fg:=by cases u<;>rfl
theorem ASl(u:U):AS.fg R (JJ u)=Lv.JJ u.fg:=by cases u<;>rfl
theorem nW(s:Src)(u:U):AS.fg R (J8 s u)=Lv.J8 s u.fg:=by cases u<;>rfl
theorem O0(k:Nat)(us:List U):(us.map (D6 k)).map (AS.fg R)=(us.map U.fg).map (Lv.D6 k):=by simp[Function.comp_def,ASp]
theorem YU(us:List U):(us.map JJ).map (AS.fg R)=(us.map U.fg).map Lv.JJ:=by simp[Function.comp_def,ASl]
theorem jo:∀ls:List AS,Lv.Np (ls.map (AS.fg R))=Np ls| []=>rfl|l::ls=>by simp only[AJ,Lv.Np,Np,KH,jo ls]
theorem ALJ(l:AS):Lv.QH (AS.fg R l)=QH l:=by
 cases l<;>try rfl
 .rename_i r sub;cases sub<;>rfl
 .rename_i s c xs;cases s with
  |own r p=>cases p<;>rfl
  |old k=>rfl
theorem AVh{S:St}{m:Bool}{l:Cap}{us:List U}(h:AX6 S m l=some us):Lv.AKM (S.fg R) l.fg=some (match m with|false=>.v .one (us.map U.fg)|true=>.p (us.map U.fg)):=by
 cases m<;>cases l<;>simp only[AX6]at h
 .cases h;rfl
 .cases h;rfl
 .cases h
 .cases h
 .cases h
 .cases h
 .cases h;rfl
 .rename_i id off;simp only[Cap.fg,Lv.AKM,Ol];split at h
  .rename_i ls a;rw[a];split at h
   .rename_i c;simp only[An,jo,c,if_true];have:=Sv (R:=R) h;rw[CV]at this;rw[this];rfl
   .cases h
  .cases h
theorem vd{S:St}:∀{l:List (Bool×C)} {cs:List Cap} {y:oe l},AGG S l cs=some y->Lv.ay (S.fg R) (cs.map Cap.fg)=some (Qv l y)
 | [],[],y,h=>by cases h;rfl
 |(m,c)::l,[],y,h=>by cases h
 | [],a::cs,y,h=>by cases h
 |(m,c)::l,a::cs,y,h=>by
  simp only[AGG]at h;split at h
  .rename_i us e;split at h
   .rename_i x q g j;cases h;simp only[AJ,Lv.ay,AVh e,vd j];cases m<;>simp only[Qv,ID g]
   .cases h
  .cases h
theorem Wj{a b:Sh}(h:AMr a b=true):a=b:=by cases a<;>cases b<;>simp[AMr]at h<;>rfl
end
end Y
end Lv
namespace Lv
open Go (IntKind BinOp UnOp)
namespace Y
section
variable{R:List GF}
def Al(R:List GF)(fs:List Nat)(xs:List CF):Prop:=∀(i:Nat) (x:CF) (n:Nat),xs[i]?=some x->fs[i]?=some n->xr R n=x
theorem Al.of{fs:List Nat}{xs:List CF}(h:fs.map (fun n=>(R[n]?).map GF.x)=xs.map some):Al R fs xs:=by
 intro i x n a c;have e:=congrArg (fun l=>l[i]?) h;simp only[List.getElem?_map,a,c,An]at e;unfold xr
 grind
theorem Al.nil(xs:List CF):Al R [] xs:=by intro i x n _ h;simp at h
theorem Al.tail{fs:List Nat}{x:CF}{xs:List CF}(h:Al R fs (x::xs)):Al R fs.tail xs:=by
 intro i y n e c;cases fs with
 |nil=>simp at c|cons a fs=>exact h (i+1) y n (by simpa using e) (by simpa using c)
theorem AUz(k:PK):k.md.Ed=PK.Ed k:=by cases k<;>rfl
theorem oZ(k:PK):k.md.writes=PK.writes k:=by cases k<;>rfl
theorem ACb:∀(ks:List PK) (es:List En),Lv.G4 (ks.map PK.md) (es.map (En.fg R))=(G4 ks es).map (AS.fg R)
 | [],es=>by cases es<;>rfl
 |k::ks,[]=>rfl|k::ks,e::es=>by
  simp only[AJ,Lv.G4,G4,AUz,List.map_append,ACb ks es];congr 1;split<;>simp[En.fg]
def bp0:En->Option Nat|⟨.one,[.bp id 0]⟩=>some id|_=>none
def AYR:Lv.Ent->Option Nat|⟨.one,[.bp id 0]⟩=>some id|_=>none
theorem ANX(e:En):AYR (e.fg R)=bp0 e:=by
 obtain⟨sh,cs⟩:=e;cases sh<;>try rfl
 rcases cs with _|⟨l,_|⟨a,ls⟩⟩
 .rfl
 .cases l<;>try rfl
  rename_i id off;cases off<;>rfl
 .cases l<;>try rfl
  rename_i id off;cases off<;>rfl
theorem AVc(S:St)(c:C)(ks:List PK)(e:En)(es:List En):EM S (.b c::ks) (e::es)=match bp0 e with
 |some id=>(match get S.bx id with|some ls=>EM (S.NT id (ls.cs.map fun _=>.t .top)) ks es|none=>EM S ks es)
 |none=>EM S ks es:=by
 obtain⟨sh,cs⟩:=e;cases sh<;>try rfl
 rcases cs with _|⟨l,_|⟨a,ls⟩⟩
 .rfl
 .cases l<;>try rfl
  rename_i id off;cases off<;>rfl
 .cases l<;>try rfl
  rename_i id off;cases off<;>rfl
theorem ASj(S:Lv.St)(ms:List Md)(e:Lv.Ent)(es:List Lv.Ent):Lv.EM S (.b::ms) (e::es)=match AYR e with
 |some id=>(match Lv.get S.bx id with|some ls=>Lv.EM { S with bx:=Lv.put S.bx id (ls.map fun _=>.t .top)} ms es|none=>Lv.EM S ms es)
 |none=>Lv.EM S ms es:=by
 obtain⟨sh,cs⟩:=e;cases sh<;>try rfl
 rcases cs with _|⟨l,_|⟨a,ls⟩⟩
 .rfl
 .cases l<;>try rfl
  rename_i id off;cases off<;>rfl
 .cases l<;>try rfl
  rename_i id off;cases off<;>rfl
theorem OR:∀(ks:List PK) (S:St) (es:List En),(EM S ks es).fg R=Lv.EM (S.fg R) (ks.map PK.md) (es.map (En.fg R))/\BT S (EM S ks es)
 | [],S,es=>by cases es<;>exact⟨rfl,BT.refl _⟩
 |k::ks,S,[]=>by exact⟨rfl,BT.refl _⟩|k::ks,S,e::es=>by
  cases k with
  |b c=>
   rw[AVc];simp only[AJ,PK.md];rw[ASj,ANX];cases bp0 e with
   |none=>dsimp only;exact OR ks S es|some id=>
    simp only[Ol];cases get S.bx id with
    |none=>exact OR ks S es|some ls=>
     obtain⟨a,g⟩:=OR ks (S.NT id (ls.cs.map fun _=>.t .top)) es;refine⟨?_,(BT.NT _ _ _).trans g⟩;simp only[An];rw[a,Sn];simp[Function.comp_def,AS.fg,U.fg]
  |_=>
   have h:=OR ks S es;simpa only[EM,Lv.EM,AJ,PK.md] using h
theorem AVT{S:St}{c:C}{e:En}{x:c.D}(h:AXw S c e=some x):Lv.Qs (S.fg R) .p (e.fg R)=some (.p (enc c x)):=by
 simp only[AXw]at h;split at h
 .rename_i id off;simp only[En.fg,AJ,BW,AS.fg,Lv.Qs,Ol];split at h
  .rename_i ls a;rw[a];split at h
   .rename_i g;simp only[An,jo,g,if_true];split at h
    .rename_i us j;have:=Sv (R:=R) j;rw[CV]at this;rw[this,ID h]
    .cases h
   .cases h
  .cases h
 .simp only[En.fg,AJ,BW,AS.fg,Lv.Qs,ID h]
 .cases h
theorem AVR{S:St}{c:C}{e:En}{x:c.D}(h:AXu S c e=some x):Lv.Qs (S.fg R) .b (e.fg R)=some (.b (enc c x)):=by
 simp only[AXu]at h;split at h
 .rename_i id;simp only[En.fg,AJ,BW,AS.fg,Lv.Qs,Ol];split at h
  .rename_i ls a;rw[a];split at h
   .rename_i us g;simp only[An,NB,OQ g,ID h]
   .cases h
  .cases h
 .cases h
theorem AVS{S:St}{fs:List Nat}{x:CF}{xs:List CF}{l:List (Bool×C)}{e:En}{y:oe l}(hA:Al R fs (x::xs))(h:AXv S fs l e=some y):Lv.Qs (S.fg R) .v (e.fg R)=some (.f x (Qv l y)):=by
 simp only[AXv]at h;split at h
 .rename_i n caps;split at h
  .rename_i g a;split at h
   .rename_i c;subst c;have:=hA 0 x g rfl rfl;simp only[En.fg,AJ,BW,AS.fg,Lv.Qs,vd h,this]
   .cases h
  .cases h
 .cases h
theorem AYh{S:Lv.St}{e:Lv.Ent}{cs:List T}(h:S.Gz e.cs=some cs):Lv.Qs S .v e=some (.v e.sh cs):=by
 obtain⟨sh,ls⟩:=e;have gen:(match S.Gz ls with|some cs=>some (V.v sh cs)|none=>none)=some (.v sh cs):=by dsimp only at h;rw[h]
 cases sh<;>try exact gen
 rcases ls with _|⟨l,_|⟨a,ls⟩⟩
 .exact gen
 .cases l<;>try exact gen
  simp[Lv.St.Gz,Lv.St.G5]at h
 .cases l<;>exact gen
theorem AVU{S:St}{c:C}{e:En}{x:c.D}(h:AXx S c e=some x)(a:e.sh=shC c):Lv.Qs (S.fg R) .v (e.fg R)=some (.v (shC c) (enc c x)):=by
 simp only[AXx]at h;split at h
 .rename_i us g;have:=AYh (e:=e.fg R) (Sv (R:=R) g);rw[this];simp only[En.fg,a,ID h]
 .cases h
theorem QB{S:St}:∀{ks:List PK} {fs:List Nat} {es:List En} {us:List U} {a:A ks},Al R fs (fX ks)->Ia S fs ks es us=some a->Lv.Ia (S.fg R) (ks.map PK.md) (es.map (En.fg R)) (us.map U.fg)=some (aVs ks a)
 | [],fs,[],us,a,_,h=>by simp[Lv.Ia,aVs]| [],fs,e::es,us,a,_,h=>by simp[Ia]at h|k::ks,fs,[],us,a,_,h=>by simp[Ia]at h|k::ks,fs,e::es,us,a,hA,h=>by
  cases k with
  |o c=>
   simp only[Ia]at h;split at h
   .rename_i q;split at h
    .rename_i x y g j;cases h;have B:=QB (show Al R fs (fX ks) from hA) j;rw[CV]at B;simp only[AJ,PK.md,Lv.Ia,En.fg,Aj,B,aVs,PK.V,ID g,Cj,Wj q]
    .cases h
   .cases h
  |m c=>
   simp only[Ia]at h;split at h
   .rename_i q;split at h
    .rename_i x y g j;cases h;have B:=QB (show Al R fs (fX ks) from hA) j;rw[CV]at B;have E:(e.cs.map (AS.fg R)).all Lv.QH=true:=by rw[Lt];simpa[Function.comp_def,ALJ] using q.2.1
     simp only[AJ,PK.md,Lv.Ia,En.fg,Aj,B,aVs,PK.V,ID g,Cj,Wj q.1,E];rw[AX ⟨trivial,by rw[<-Wj q.1];exact q.2.2⟩]
    .cases h
   .cases h
  |f x l=>
   simp only[Ia]at h;split at h
   .rename_i y z g j;cases h;simp only[AJ,PK.md,Lv.Ia,AVS hA g,QB hA.tail j,aVs,PK.V]
   .cases h
  |v c=>
   simp only[Ia]at h;split at h
   .rename_i q;split at h
    .rename_i y z g j;cases h;simp only[AJ,PK.md,Lv.Ia,AVU g (Wj q),QB (show Al R fs (fX ks) from hA) j,aVs,PK.V]
    .cases h
   .cases h
  |p c=>
   simp only[Ia]at h;split at h
   .rename_i y z g j;cases h;simp only[AJ,PK.md,Lv.Ia,AVT g,QB (show Al R fs (fX ks) from hA) j,aVs,PK.V]
   .cases h
  |b c=>
   simp only[Ia]at h;split at h
   .rename_i y z g j;cases h;simp only[AJ,PK.md,Lv.Ia,AVR g,QB (show Al R fs (fX ks) from hA) j,aVs,PK.V]
   .cases h
theorem ANR{S S':St}{ks:List PK}{fs:List Nat}{es:List En}{a:A ks}(hA:Al R fs (fX ks))(h:UW S fs ks es=some (S',a)) :
 Lv.UW (S.fg R) (ks.map PK.md) (es.map (En.fg R))=some (S'.fg R,aVs ks a)/\BT S S':=by
 unfold UW at h;unfold Lv.UW;split at h
 .rename_i S1 us c;obtain⟨e,g⟩:=K8 (R:=R) c;rw[ACb,e];split at h
  .rename_i B j;cases h;obtain⟨q,y⟩:=OR (R:=R) ks S1 es;simp only[QB hA j,q];exact⟨trivial,g.trans y⟩
  .cases h
 .cases h
theorem jA(l:AS):Lv.names (AS.fg R l)=names l:=by
 cases l<;>try rfl
 rename_i n caps;simp only[AS.fg,Lv.names,names,List.filterMap_map];congr 1;funext c;cases c<;>rfl
theorem AMs(l l':AS):Lv.R0 (AS.fg R l) (AS.fg R l')=R0 l l':=by
 grind[Lv.R0,R0,KH,jA,WK,YJ]
theorem AMt(l l':AS):Lv.QM (AS.fg R l) (AS.fg R l')=QM l l':=by
 grind[Lv.QM,QM,KH,jA,WK,YJ]
theorem AMu(e a:En):Lv.shares (e.fg R) (a.fg R)=shares e a:=by
 simp only[Lv.shares,shares,En.fg,HA,Function.comp_def,AMs]
theorem ve:∀(ks:List PK) (prev es:List En),Lv.OS (prev.map (En.fg R)) (ks.map PK.md) (es.map (En.fg R))=OS prev ks es
 | [],prev,es=>by cases es<;>rfl
 |k::ks,prev,[]=>rfl|k::ks,prev,e::es=>by
  have a:=ve ks (e::prev) es;simp only[AJ]at a ⊢;simp only[Lv.OS,OS,oZ,HA,Function.comp_def,AMu,a]
end
end Y
end Lv
