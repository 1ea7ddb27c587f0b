/- The typed machine is right about the light one. -/
import Derived.Test.YtfokjgkkeobaiaaGreatLvES
import Derived.KernelRfl
set_option linter.all false
noncomputable section
open Bool renaming and_eq_true->AF,false_and->By,false_eq_true->BJ,not_eq_true'->A8
open List renaming all_map->J3,any_map->Ht,cons_append->Bm,drop_left'->Cw,ext_getElem?->Fw,getD_eq_getElem?_getD->BC,getElem?_eq_some_iff->AP,getElem?_map->A0,getElem?_set->EM,length_append->AH,length_cons->AI,length_drop->BI,length_map->Ac,length_nil->AM,map_append->Cx,map_cons->AK,map_drop->Cr,map_flatten->Kq,map_map->DP,map_nil->Ba,map_replicate->Ff,map_set->Hu,map_take->DE,mem_cons->Ae,mem_cons_of_mem->Af,mem_cons_self->BK,replicate_succ->JT,take_append_drop->Cb,take_left'->Ce
open List.cons renaming injEq->CE
open Nat renaming beq_refl->J4,eq_of_beq_eq_true->E0,le_of_ble_eq_true->Im,le_refl->Ab,lt_of_lt_of_le->BY,lt_succ_of_lt->KI,ne_of_beq_eq_false->IJ,not_lt->PD,sub_self->Ek
open Option renaming getD_some->DH,map_some->Ap
open Option.some renaming injEq->AD
namespace Lv
open Go (IntKind BinOp UnOp)
variable{α:Type}{o:Option α}{γ:Type}{x:Option γ}{σ:Type}{r:γ}
structure Bq where
 mk ::
 Kind:Int
 Id:Int
 AZ:Int
 B0:Int
 BL:Int
 DS:Int
abbrev AKl(x:Bq):List T:=[.int .i64 x.Kind,.int .i64 x.Id,.int .i64 x.AZ,.int .i64 x.B0,.int .i64 x.BL,.int .i64 x.DS]
structure AY where
 mk ::
 AX:List Int
 Cd:Int
 Room:Int
 BL:Int
 CK:Int
 B7:Int
 Rest:Int
 Cl:Int
 C7:Int
abbrev AW7(x:AY):List T:=[.sl 1 (x.AX.map eN),.int .i64 x.Cd,.int .i64 x.Room,.int .i64 x.BL,.int .i64 x.CK,.int .i64 x.B7,.int .i64 x.Rest,.int .i64 x.Cl,.int .i64 x.C7]
structure AU where
 mk ::
 Id:Int
 AZ:Int
 B0:Int
 BL:Int
 DS:Int
 Since:Int
 A5:Int
 State:Int
 DO:Int
 Du:Int
abbrev dw(x:AU):List T:=[.int .i64 x.Id,.int .i64 x.AZ,.int .i64 x.B0,.int .i64 x.BL,.int .i64 x.DS,.int .i64 x.Since,.int .i64 x.A5,.int .i64 x.State,.int .i64 x.DO,.int .i64 x.Du]
structure BO where
 mk ::
 Total:Int
 D7:Int
 FQ:Int
 GB:Int
 Gb:Int
abbrev AP2(x:BO):List T:=[.int .i64 x.Total,.int .i64 x.D7,.int .i64 x.FQ,.int .i64 x.GB,.int .i64 x.Gb]
structure A2 where
 mk ::
 Level:Int
 A5:Int
 Id:Int
 BL:Int
abbrev AKj(x:A2):List T:=[.int .i64 x.Level,.int .i64 x.A5,.int .i64 x.Id,.int .i64 x.BL]
structure Bf where
 mk ::
 At:Int
 Id:Int
abbrev AP3(x:Bf):List T:=[.int .i64 x.At,.int .i64 x.Id]
structure A3 where
 mk ::
 Aw:List (List Bf)
abbrev AW9(x:A3):List T:=[.sl 1 (x.Aw.map (λl=>[T.sl 2 (l.map AP3)]))]
structure Ah where
 mk ::
 AX:BO
 Row:List A2
 B6:A3
abbrev dv(x:Ah):List T:=[.int .i64 x.AX.Total,.int .i64 x.AX.D7,.int .i64 x.AX.FQ,.int .i64 x.AX.GB,.int .i64 x.AX.Gb,.sl 4 (x.Row.map AKj),.sl 1 (x.B6.Aw.map (λl=>[T.sl 2 (l.map AP3)]))]
structure AE where
 mk ::
 AQ:AY
 Now:Int
 A5:Int
 AG:List AU
 AJ:List Ah
 BF:List Int
 BD:List Int
abbrev AW6(x:AE):List T:=[.sl 1 (x.AQ.AX.map eN),.int .i64 x.AQ.Cd,.int .i64 x.AQ.Room,.int .i64 x.AQ.BL,.int .i64 x.AQ.CK,.int .i64 x.AQ.B7,.int .i64 x.AQ.Rest,.int .i64 x.AQ.Cl,.int .i64 x.AQ.C7,.int .i64 x.Now,.int .i64 x.A5,.sl 10 (x.AG.map dw),.sl 7 (x.AJ.map dv),.sl 1 (x.BF.map eN),.sl 1 (x.BD.map eN)]
structure Bp where
 mk ::
 Data:List UInt8
 Safe:Int
abbrev AZH(x:Bp):List T:=[.str x.Data,.int .i64 x.Safe]
structure Bj where
 mk ::
 Log:Bp
 Ec:Bp
 Odd:Bp
abbrev AW8(x:Bj):List T:=[.str x.Log.Data,.int .i64 x.Log.Safe,.str x.Ec.Data,.int .i64 x.Ec.Safe,.str x.Odd.Data,.int .i64 x.Odd.Safe]
structure Az where
 mk ::
 Ax:AE
 Aq:Bj
 Seq:Int
 Laid:List Bq
abbrev AP1(x:Az):List T:=[.sl 1 (x.Ax.AQ.AX.map eN),.int .i64 x.Ax.AQ.Cd,.int .i64 x.Ax.AQ.Room,.int .i64 x.Ax.AQ.BL,.int .i64 x.Ax.AQ.CK,.int .i64 x.Ax.AQ.B7,.int .i64 x.Ax.AQ.Rest,.int .i64 x.Ax.AQ.Cl,.int .i64 x.Ax.AQ.C7,.int .i64 x.Ax.Now,.int .i64 x.Ax.A5,.sl 10 (x.Ax.AG.map dw),.sl 7 (x.Ax.AJ.map dv),.sl 1 (x.Ax.BF.map eN),.sl 1 (x.Ax.BD.map eN),.str x.Aq.Log.Data,.int .i64 x.Aq.Log.Safe,.str x.Aq.Ec.Data,.int .i64 x.Aq.Ec.Safe,.str x.Aq.Odd.Data,.int .i64 x.Aq.Odd.Safe,.int .i64 x.Seq,.sl 6 (x.Laid.map AKl)]
structure CA where
 mk ::
 Code:Int
 Ids:List Int
abbrev AKk(x:CA):List T:=[.int .i64 x.Code,.sl 1 (x.Ids.map eN)]
structure BV where
 mk ::
 Ad:Az
 Di:List Bq
 Cc:List CA
 JL:Int
abbrev AXA(x:BV):List T:=[.sl 1 (x.Ad.Ax.AQ.AX.map eN),.int .i64 x.Ad.Ax.AQ.Cd,.int .i64 x.Ad.Ax.AQ.Room,.int .i64 x.Ad.Ax.AQ.BL,.int .i64 x.Ad.Ax.AQ.CK,.int .i64 x.Ad.Ax.AQ.B7,.int .i64 x.Ad.Ax.AQ.Rest,.int .i64 x.Ad.Ax.AQ.Cl,.int .i64 x.Ad.Ax.AQ.C7,.int .i64 x.Ad.Ax.Now,.int .i64 x.Ad.Ax.A5,.sl 10 (x.Ad.Ax.AG.map dw),.sl 7 (x.Ad.Ax.AJ.map dv),.sl 1 (x.Ad.Ax.BF.map eN),.sl 1 (x.Ad.Ax.BD.map eN),.str x.Ad.Aq.Log.Data,.int .i64 x.Ad.Aq.Log.Safe,.str x.Ad.Aq.Ec.Data,.int .i64 x.Ad.Aq.Ec.Safe,.str x.Ad.Aq.Odd.Data,.int .i64 x.Ad.Aq.Odd.Safe,.int .i64 x.Ad.Seq,.sl 6 (x.Ad.Laid.map AKl),.sl 6 (x.Di.map AKl),.sl 2 (x.Cc.map AKk),.int .i64 x.JL]
structure DR where
 mk ::
 Kind:Int
 Req:Bq
 N_:Int
 Nb:List Int
abbrev AaS(x:DR):List T:=[.int .i64 x.Kind,.int .i64 x.Req.Kind,.int .i64 x.Req.Id,.int .i64 x.Req.AZ,.int .i64 x.Req.B0,.int .i64 x.Req.BL,.int .i64 x.Req.DS,.int .i64 x.N_,.sl 1 (x.Nb.map eN)]
structure B5 where
 mk ::
 Seq:Int
 Body:List UInt8
 Next:Int
abbrev AW5(x:B5):List T:=[.int .i64 x.Seq,.str x.Body,.int .i64 x.Next]
structure Dj where
 mk ::
 Tm:List Int
 at_:Int
 zx:Bool
abbrev AXB(x:Dj):List T:=[.sl 1 (x.Tm.map eN),.int .i64 x.at_,.bool x.zx]
structure BT where
 mk ::
 b_:List UInt8
 i_:Int
 h_:Int
abbrev AXC(x:BT):List T:=[.sl 1 (x.b_.map eBr),.int .i64 x.i_,.int .i64 x.h_]
inductive C where
 |i|u|b|s|m|z|ki(k:IntKind)|l(c:C)|st(n:Nat)|un(n:Nat)
 deriving DecidableEq
def tD:Nat->Type|0=>Bq|1=>AY|2=>AU|3=>BO|4=>A2|5=>Bf|6=>A3|7=>Ah|8=>AE|9=>Bp|10=>Bj|11=>Az|12=>CA|13=>BV|14=>DR|15=>B5|16=>Dj|17=>BT|_=>Unit
def C.D:C->Type|.i=>Int|.u=>UInt8|.b=>Bool|.s=>List UInt8|.m=>List (Int×Int)|.ki _=>Int|.z=>Unit|.l c=>List c.D|.st n=>tD n|.un _=>Unit
def AYh:Nat->Nat|0=>6|1=>9|2=>10|3=>5|4=>4|5=>2|6=>1|7=>7|8=>15|9=>2|10=>6|11=>23|12=>2|13=>26|14=>9|15=>3|16=>3|17=>3|_=>0
def C.size:C->Nat|.st n=>AYh n|.un n=>n|_=>1
inductive U where
 |top|un|int(k:IntKind)(n:Int)|u8(x:UInt8)|bool(b:Bool)|str(s:List UInt8)|nil|np|sl(c:C)(xs:List c.D)|mp(ks:List (Int×Int))
def AaT:(n:Nat)->tD n->List T|0,x=>AKl x|1,x=>AW7 x|2,x=>dw x|3,x=>AP2 x|4,x=>AKj x|5,x=>AP3 x|6,x=>AW9 x|7,x=>dv x|8,x=>AW6 x|9,x=>AZH x|10,x=>AW8 x|11,x=>AP1 x|12,x=>AKk x|13,x=>AXA x|14,x=>AaS x|15,x=>AW5 x|16,x=>AXB x|17,x=>AXC x|_+18,_=>[]
def enc:(c:C)->c.D->List T|.i,x=>[.int .i64 x]|.u,x=>[.int .u8 x.toNat]|.b,x=>[.bool x]|.s,x=>[.str x]|.m,x=>[.mp x]|.ki k,x=>[.int k x]|.z,_=>[.nil]|.l c,xs=>[.sl c.size (xs.map (enc c))]|.st n,x=>AaT n x|.un n,_=>List.replicate n .un
abbrev AYL(x:Bq):List U:=[.int .i64 x.Kind,.int .i64 x.Id,.int .i64 x.AZ,.int .i64 x.B0,.int .i64 x.BL,.int .i64 x.DS]
abbrev AIQ(x:AY):List U:=[.sl .i x.AX,.int .i64 x.Cd,.int .i64 x.Room,.int .i64 x.BL,.int .i64 x.CK,.int .i64 x.B7,.int .i64 x.Rest,.int .i64 x.Cl,.int .i64 x.C7]
abbrev AIO(x:AU):List U:=[.int .i64 x.Id,.int .i64 x.AZ,.int .i64 x.B0,.int .i64 x.BL,.int .i64 x.DS,.int .i64 x.Since,.int .i64 x.A5,.int .i64 x.State,.int .i64 x.DO,.int .i64 x.Du]
abbrev AAC(x:BO):List U:=[.int .i64 x.Total,.int .i64 x.D7,.int .i64 x.FQ,.int .i64 x.GB,.int .i64 x.Gb]
abbrev AIL(x:A2):List U:=[.int .i64 x.Level,.int .i64 x.A5,.int .i64 x.Id,.int .i64 x.BL]
abbrev AYK(x:Bf):List U:=[.int .i64 x.At,.int .i64 x.Id]
abbrev AIS(x:A3):List U:=[.sl (.l (.st 5)) x.Aw]
abbrev AIK(x:Ah):List U:=[.int .i64 x.AX.Total,.int .i64 x.AX.D7,.int .i64 x.AX.FQ,.int .i64 x.AX.GB,.int .i64 x.AX.Gb,.sl (.st 4) x.Row,.sl (.l (.st 5)) x.B6.Aw]
abbrev AIN(x:AE):List U:=[.sl .i x.AQ.AX,.int .i64 x.AQ.Cd,.int .i64 x.AQ.Room,.int .i64 x.AQ.BL,.int .i64 x.AQ.CK,.int .i64 x.AQ.B7,.int .i64 x.AQ.Rest,.int .i64 x.AQ.Cl,.int .i64 x.AQ.C7,.int .i64 x.Now,.int .i64 x.A5,.sl (.st 2) x.AG,.sl (.st 7) x.AJ,.sl .i x.BF,.sl .i x.BD]
abbrev APB(x:Bp):List U:=[.str x.Data,.int .i64 x.Safe]
abbrev AIR(x:Bj):List U:=[.str x.Log.Data,.int .i64 x.Log.Safe,.str x.Ec.Data,.int .i64 x.Ec.Safe,.str x.Odd.Data,.int .i64 x.Odd.Safe]
abbrev AAB(x:Az):List U:=[.sl .i x.Ax.AQ.AX,.int .i64 x.Ax.AQ.Cd,.int .i64 x.Ax.AQ.Room,.int .i64 x.Ax.AQ.BL,.int .i64 x.Ax.AQ.CK,.int .i64 x.Ax.AQ.B7,.int .i64 x.Ax.AQ.Rest,.int .i64 x.Ax.AQ.Cl,.int .i64 x.Ax.AQ.C7,.int .i64 x.Ax.Now,.int .i64 x.Ax.A5,.sl (.st 2) x.Ax.AG,.sl (.st 7) x.Ax.AJ,.sl .i x.Ax.BF,.sl .i x.Ax.BD,.str x.Aq.Log.Data,.int .i64 x.Aq.Log.Safe,.str x.Aq.Ec.Data,.int .i64 x.Aq.Ec.Safe,.str x.Aq.Odd.Data,.int .i64 x.Aq.Odd.Safe,.int .i64 x.Seq,.sl (.st 0) x.Laid]
abbrev AIP(x:CA):List U:=[.int .i64 x.Code,.sl .i x.Ids]
abbrev AIT(x:BV):List U:=[.sl .i x.Ad.Ax.AQ.AX,.int .i64 x.Ad.Ax.AQ.Cd,.int .i64 x.Ad.Ax.AQ.Room,.int .i64 x.Ad.Ax.AQ.BL,.int .i64 x.Ad.Ax.AQ.CK,.int .i64 x.Ad.Ax.AQ.B7,.int .i64 x.Ad.Ax.AQ.Rest,.int .i64 x.Ad.Ax.AQ.Cl,.int .i64 x.Ad.Ax.AQ.C7,.int .i64 x.Ad.Ax.Now,.int .i64 x.Ad.Ax.A5,.sl (.st 2) x.Ad.Ax.AG,.sl (.st 7) x.Ad.Ax.AJ,.sl .i x.Ad.Ax.BF,.sl .i x.Ad.Ax.BD,.str x.Ad.Aq.Log.Data,.int .i64 x.Ad.Aq.Log.Safe,.str x.Ad.Aq.Ec.Data,.int .i64 x.Ad.Aq.Ec.Safe,.str x.Ad.Aq.Odd.Data,.int .i64 x.Ad.Aq.Odd.Safe,.int .i64 x.Ad.Seq,.sl (.st 0) x.Ad.Laid,.sl (.st 0) x.Di,.sl (.st 12) x.Cc,.int .i64 x.JL]
abbrev AYJ(x:DR):List U:=[.int .i64 x.Kind,.int .i64 x.Req.Kind,.int .i64 x.Req.Id,.int .i64 x.Req.AZ,.int .i64 x.Req.B0,.int .i64 x.Req.BL,.int .i64 x.Req.DS,.int .i64 x.N_,.sl .i x.Nb]
abbrev AIM(x:B5):List U:=[.int .i64 x.Seq,.str x.Body,.int .i64 x.Next]
abbrev AIU(x:Dj):List U:=[.sl .i x.Tm,.int .i64 x.at_,.bool x.zx]
abbrev AIV(x:BT):List U:=[.sl .u x.b_,.int .i64 x.i_,.int .i64 x.h_]
def AFQ:(n:Nat)->tD n->List U|0,x=>AYL x|1,x=>AIQ x|2,x=>AIO x|3,x=>AAC x|4,x=>AIL x|5,x=>AYK x|6,x=>AIS x|7,x=>AIK x|8,x=>AIN x|9,x=>APB x|10,x=>AIR x|11,x=>AAB x|12,x=>AIP x|13,x=>AIT x|14,x=>AYJ x|15,x=>AIM x|16,x=>AIU x|17,x=>AIV x|_+18,_=>[]
def cells:(c:C)->c.D->List U|.i,x=>[.int .i64 x]|.u,x=>[.u8 x]|.b,x=>[.bool x]|.s,x=>[.str x]|.m,x=>[.mp x]|.ki k,x=>[.int k x]|.z,_=>[.nil]|.l c,xs=>[.sl c xs]|.st n,x=>AFQ n x|.un n,_=>List.replicate n .un
def toI:U->Option Int|.int .i64 n=>some n|_=>none
def toU:U->Option UInt8|.u8 x=>some x|_=>none
def AX9:U->Option Bool|.bool x=>some x|_=>none
def toN(k:IntKind):U->Option Int|.int k' x=>if k'=k then some x else none|_=>none
def toZ:U->Option Unit|.nil=>some ()|_=>none
def toM:U->Option (List (Int×Int))|.mp x=>some x|_=>none
def toS:U->Option (List UInt8)|.str x=>some x|_=>none
def toL(c:C):U->Option (List c.D)|.sl c' xs=>if h:c'=c then some (h▸xs) else none|_=>none
def gI{α:Type}(us:List U)(K:Int->List U->Option α):Option α:=match us with|u::us=>(toI u).bind λa=>K a us | []=>none
def gS{α:Type}(us:List U)(K:List UInt8->List U->Option α):Option α:=match us with|u::us=>(toS u).bind λa=>K a us | []=>none
def gBo{α:Type}(us:List U)(K:Bool->List U->Option α):Option α:=match us with|u::us=>(AX9 u).bind λa=>K a us | []=>none
def gL{α:Type}(c:C)(us:List U)(K:List c.D->List U->Option α):Option α:=match us with|u::us=>(toL c u).bind λa=>K a us | []=>none
def gE{α:Type}(us:List U)(a:α):Option α:=match us with | []=>some a|_::_=>none
def AT7(us:List U):Option Bq:=gI us λa0 us=>gI us λa1 us=>gI us λa2 us=>gI us λa3 us=>gI us λa4 us=>gI us λa5 us=>gE us (⟨a0,a1,a2,a3,a4,a5⟩:Bq)
def yH(us:List U):Option AY:=gL .i us λa0 us=>gI us λa1 us=>gI us λa2 us=>gI us λa3 us=>gI us λa4 us=>gI us λa5 us=>gI us λa6 us=>gI us λa7 us=>gI us λa8 us=>gE us (⟨a0,a1,a2,a3,a4,a5,a6,a7,a8⟩:AY)
def yF(us:List U):Option AU:=gI us λa0 us=>gI us λa1 us=>gI us λa2 us=>gI us λa3 us=>gI us λa4 us=>gI us λa5 us=>gI us λa6 us=>gI us λa7 us=>gI us λa8 us=>gI us λa9 us=>gE us (⟨a0,a1,a2,a3,a4,a5,a6,a7,a8,a9⟩:AU)
def m7(us:List U):Option BO:=gI us λa0 us=>gI us λa1 us=>gI us λa2 us=>gI us λa3 us=>gI us λa4 us=>gE us (⟨a0,a1,a2,a3,a4⟩:BO)
def yC(us:List U):Option A2:=gI us λa0 us=>gI us λa1 us=>gI us λa2 us=>gI us λa3 us=>gE us (⟨a0,a1,a2,a3⟩:A2)
def AT5(us:List U):Option Bf:=gI us λa0 us=>gI us λa1 us=>gE us (⟨a0,a1⟩:Bf)
def yJ(us:List U):Option A3:=gL (.l (.st 5)) us λa0 us=>gE us (⟨a0⟩:A3)
def yB(us:List U):Option Ah:=gI us λa0 us=>gI us λa1 us=>gI us λa2 us=>gI us λa3 us=>gI us λa4 us=>gL (.st 4) us λa5 us=>gL (.l (.st 5)) us λa6 us=>gE us (⟨⟨a0,a1,a2,a3,a4⟩,a5,⟨a6⟩⟩:Ah)
def yE(us:List U):Option AE:=gL .i us λa0 us=>gI us λa1 us=>gI us λa2 us=>gI us λa3 us=>gI us λa4 us=>gI us λa5 us=>gI us λa6 us=>gI us λa7 us=>gI us λa8 us=>gI us λa9 us=>gI us λa10 us=>gL (.st 2) us λa11 us=>gL (.st 7) us λa12 us=>gL .i us λa13 us=>gL .i us λa14 us=>gE us (⟨⟨a0,a1,a2,a3,a4,a5,a6,a7,a8⟩,a9,a10,a11,a12,a13,a14⟩:AE)
def AG9(us:List U):Option Bp:=gS us λa0 us=>gI us λa1 us=>gE us (⟨a0,a1⟩:Bp)
def yI(us:List U):Option Bj:=gS us λa0 us=>gI us λa1 us=>gS us λa2 us=>gI us λa3 us=>gS us λa4 us=>gI us λa5 us=>gE us (⟨⟨a0,a1⟩,⟨a2,a3⟩,⟨a4,a5⟩⟩:Bj)
def m0(us:List U):Option Az:=gL .i us λa0 us=>gI us λa1 us=>gI us λa2 us=>gI us λa3 us=>gI us λa4 us=>gI us λa5 us=>gI us λa6 us=>gI us λa7 us=>gI us λa8 us=>gI us λa9 us=>gI us λa10 us=>gL (.st 2) us λa11 us=>gL (.st 7) us λa12 us=>gL .i us λa13 us=>gL .i us λa14 us=>gS us λa15 us=>gI us λa16 us=>gS us λa17 us=>gI us λa18 us=>gS us λa19 us=>gI us λa20 us=>gI us λa21 us=>gL (.st 0) us λa22 us=>gE us (⟨⟨⟨a0,a1,a2,a3,a4,a5,a6,a7,a8⟩,a9,a10,a11,a12,a13,a14⟩,⟨⟨a15,a16⟩,⟨a17,a18⟩,⟨a19,a20⟩⟩,a21,a22⟩:Az)
def yG(us:List U):Option CA:=gI us λa0 us=>gL .i us λa1 us=>gE us (⟨a0,a1⟩:CA)
def yK(us:List U):Option BV:=gL .i us λa0 us=>gI us λa1 us=>gI us λa2 us=>gI us λa3 us=>gI us λa4 us=>gI us λa5 us=>gI us λa6 us=>gI us λa7 us=>gI us λa8 us=>gI us λa9 us=>gI us λa10 us=>gL (.st 2) us λa11 us=>gL (.st 7) us λa12 us=>gL .i us λa13 us=>gL .i us λa14 us=>gS us λa15 us=>gI us λa16 us=>gS us λa17 us=>gI us λa18 us=>gS us λa19 us=>gI us λa20 us=>gI us λa21 us=>gL (.st 0) us λa22 us=>gL (.st 0) us λa23 us=>gL (.st 12) us λa24 us=>gI us λa25 us=>gE us (⟨⟨⟨⟨a0,a1,a2,a3,a4,a5,a6,a7,a8⟩,a9,a10,a11,a12,a13,a14⟩,⟨⟨a15,a16⟩,⟨a17,a18⟩,⟨a19,a20⟩⟩,a21,a22⟩,a23,a24,a25⟩:BV)
def AT3(us:List U):Option DR:=gI us λa0 us=>gI us λa1 us=>gI us λa2 us=>gI us λa3 us=>gI us λa4 us=>gI us λa5 us=>gI us λa6 us=>gI us λa7 us=>gL .i us λa8 us=>gE us (⟨a0,⟨a1,a2,a3,a4,a5,a6⟩,a7,a8⟩:DR)
def yD(us:List U):Option B5:=gI us λa0 us=>gS us λa1 us=>gI us λa2 us=>gE us (⟨a0,a1,a2⟩:B5)
def yL(us:List U):Option Dj:=gL .i us λa0 us=>gI us λa1 us=>gBo us λa2 us=>gE us (⟨a0,a1,a2⟩:Dj)
def yM(us:List U):Option BT:=gL .u us λa0 us=>gI us λa1 us=>gI us λa2 us=>gE us (⟨a0,a1,a2⟩:BT)
def ofS:(n:Nat)->List U->Option (tD n)|0,us=>AT7 us|1,us=>yH us|2,us=>yF us|3,us=>m7 us|4,us=>yC us|5,us=>AT5 us|6,us=>yJ us|7,us=>yB us|8,us=>yE us|9,us=>AG9 us|10,us=>yI us|11,us=>m0 us|12,us=>yG us|13,us=>yK us|14,us=>AT3 us|15,us=>yD us|16,us=>yL us|17,us=>yM us|_+18,_=>none
def Na:Nat->List U->Option Unit|0,[]=>some ()|n+1,.un::us=>Na n us|_,_=>none
def of1{α:Type}(us:List U)(f:U->Option α):Option α:=match us with | [u]=>f u|_=>none
def ofC:(c:C)->List U->Option c.D|.i,us=>of1 us toI|.u,us=>of1 us toU|.b,us=>of1 us AX9|.s,us=>of1 us toS|.m,us=>of1 us toM|.ki k,us=>of1 us (toN k)|.z,us=>of1 us toZ|.l c,us=>of1 us (toL c)|.st n,us=>ofS n us|.un n,us=>Na n us
def AYn:(n:Nat)->Option (tD n)|0=>some (⟨0,0,0,0,0,0⟩:Bq)|1=>some (⟨[],0,0,0,0,0,0,0,0⟩:AY)|2=>some (⟨0,0,0,0,0,0,0,0,0,0⟩:AU)|3=>some (⟨0,0,0,0,0⟩:BO)|4=>some (⟨0,0,0,0⟩:A2)|5=>some (⟨0,0⟩:Bf)|6=>some (⟨[]⟩:A3)|7=>some (⟨⟨0,0,0,0,0⟩,[],⟨[]⟩⟩:Ah)|8=>some (⟨⟨[],0,0,0,0,0,0,0,0⟩,0,0,[],[],[],[]⟩:AE)|9=>some (⟨[],0⟩:Bp)|10=>some (⟨⟨[],0⟩,⟨[],0⟩,⟨[],0⟩⟩:Bj)|11=>some (⟨⟨⟨[],0,0,0,0,0,0,0,0⟩,0,0,[],[],[],[]⟩,⟨⟨[],0⟩,⟨[],0⟩,⟨[],0⟩⟩,0,[]⟩:Az)|12=>some (⟨0,[]⟩:CA)|13=>some (⟨⟨⟨⟨[],0,0,0,0,0,0,0,0⟩,0,0,[],[],[],[]⟩,⟨⟨[],0⟩,⟨[],0⟩,⟨[],0⟩⟩,0,[]⟩,[],[],0⟩:BV)|14=>some (⟨0,⟨0,0,0,0,0,0⟩,0,[]⟩:DR)|15=>some (⟨0,[],0⟩:B5)|16=>some (⟨[],0,false⟩:Dj)|17=>some (⟨[],0,0⟩:BT)|_+18=>none
def AFH:(c:C)->Option c.D|.i=>some (0:Int)|.u=>some (0:UInt8)|.b=>some false|.s=>some ([]:List UInt8)|.m=>some ([]:List (Int×Int))|.ki _=>some (0:Int)|.z=>none|.l c=>some ([]:List c.D)|.st n=>AYn n|.un _=>none
def U.fg:U->T|.top=>.top|.un=>.un|.int k n=>.int k n|.u8 x=>.int .u8 x.toNat|.bool b=>.bool b|.str s=>.str s|.nil=>.nil|.np=>.np|.mp ks=>.mp ks|.sl c xs=>.sl c.size (xs.map (enc c))
def Tu:List C->Type| []=>Unit| [c]=>c.D|c::c'::cs=>c.D×Tu (c'::cs)
def RR:(cs:List C)->Tu cs->List (List T)| [],_=>[]| [c],x=>[enc c x]|c::c'::cs,x=>enc c x.1::RR (c'::cs) x.2
def ofT:(cs:List C)->List U->Option (Tu cs)
 | [],us=>match us with | []=>some ()|_=>none
 | [c],us=>ofC c us|c::c'::cs,us=>match ofC c (us.take c.size),ofT (c'::cs) (us.drop c.size) with|some a,some b=>some (a,b)|_,_=>none
inductive PK where
 |v(c:C)|p(c:C)|b(c:C)|o(c:C)|m(c:C)|f(x:CQ)(caps:List (Bool×C))
def PK.md:PK->Md|.v _=>.v|.p _=>.p|.b _=>.b|.o _=>.o|.m _=>.m|.f _ _=>.v
def shC:C->Sh|.st _=>.agg|.un _=>.agg|_=>.one
def wC:C->Option Nat|.st n=>some (AYh n)|.un n=>some n|_=>none
def tk:List (Bool×C)->Type| []=>Unit|(_,c)::r=>c.D×tk r
def PK.D:PK->Type|.v c=>c.D|.p c=>c.D|.b c=>c.D|.o c=>c.D|.m c=>c.D|.f _ caps=>tk caps
def A:List PK->Type| []=>Unit|k::ks=>k.D×A ks
def Sp:(l:List (Bool×C))->tk l->List V| [],_=>[]|(false,c)::r,x=>.v .one (enc c x.1)::Sp r x.2|(true,c)::r,x=>.p (enc c x.1)::Sp r x.2
def PK.V:(k:PK)->k.D->V|.v c,x=>.v (shC c) (enc c x)|.p c,x=>.p (enc c x)|.b c,x=>.b (enc c x)|.o c,x=>.o (shC c) (enc c x)|.m c,x=>.m (shC c) (enc c x)|.f x caps,y=>.f x (Sp caps y)
def aVs:(ks:List PK)->A ks->List V| [],_=>[]|k::ks,x=>k.V x.1::aVs ks x.2
def MN:List PK->List C| []=>[]|.b c::r=>c::MN r|.m c::r=>c::MN r|_::r=>MN r
def fX:List PK->List CQ| []=>[]|.f x _::r=>x::fX r|_::r=>fX r
inductive RK where
 |ret(cs:List C)|ptr(k:Nat)(c:C)|vw(k:Nat)(c:C)
def RK.cs:RK->List C|.ret cs=>cs|.ptr _ c=>[c]|.vw _ c=>[.l c]
def RK.sh:RK->Sh|.ret cs=>AEm (cs.map wC)|.ptr k _=>.ptr k|.vw k _=>.vw k
structure GF where
 x:CQ
 ps:List PK
 rk:RK
 d:A ps->Option (Tu (rk.cs++MN ps))
 ms:E4 x=ps.map PK.md
 ok:∀a r,d a=some r->KG x (aVs ps a) rk.sh ((RR _ r).take rk.cs.length).flatten ((RR _ r).drop rk.cs.length)
structure Evs where
 bd:(α γ:Type)->Option α->(α->Option γ)->Option γ
 lp:(σ γ:Type)->((σ->Option γ)->σ->Option γ)->Nat->σ->Option γ
 jn:(σ γ:Type)->(σ->Option γ)->σ->Option γ
 eq:(α γ:Type)->α->α->Option γ->Option γ
 al:(γ:Type)->(Option γ->Option γ)->Option γ->Option γ
 ox:(γ:Type)->Option γ->Option γ->Option γ
def ALG{σ γ:Type}(F:(σ->Option γ)->σ->Option γ):Nat->σ->Option γ|0,_=>none|n+1,x=>F (ALG F n) x
open Classical in
def Evs.std:Evs where
 bd _ _ o f:=o.bind f
 lp _ _ F n x:=ALG F n x
 jn _ _ F x:=F x
 eq _ _ a b x:=if a=b then x else none
 al _ F x:=F x
 ox _ x y:=match x with|some r=>some r|none=>y
def evX:Evs:=Classical.choose (p:=λE=>E=Evs.std) ⟨_,rfl⟩
theorem PN:evX=Evs.std:=Classical.choose_spec (p:=λE=>E=Evs.std) ⟨_,rfl⟩
section
def orX{γ:Type}(x y:Option γ):Option γ:=evX.ox γ x y
def br{γ:Type}(b:Bool)(x y:Option γ):Option γ:=if b=true then x else y
def gd{γ:Type}(p:Prop)[i:Decidable p](x:Option γ):Option γ:=if p then x else none
def bd{α γ:Type}(o:Option α)(f:α->Option γ):Option γ:=evX.bd α γ o f
def A9{σ γ:Type}(F:(σ->Option γ)->σ->Option γ)(n:Nat)(x:σ):Option γ:=evX.lp σ γ F n x
def jn{σ γ:Type}(F:σ->Option γ)(x:σ):Option γ:=evX.jn σ γ F x
def eqv{α γ:Type}(a b:α)(x:Option γ):Option γ:=evX.eq α γ a b x
def alt{γ:Type}(F:Option γ->Option γ)(x:Option γ):Option γ:=evX.al γ F x
end
theorem AYe(y:Option γ):orX none y=y:=by unfold orX;rw[PN];rfl
theorem AYf(r:γ) y :orX (some r) y=some r:=by unfold orX;rw[PN];rfl
theorem AZq{γ}{x y:Option γ}{r}(h:orX x y=some r):x=some r\/y=some r:=by
 cases x with
 |none=>rw[AYe]at h;exact .inr h|some q=>rw[AYf]at h;exact .inl h
theorem AY5 b(x y:Option γ):br b x y=if b=true then x else y:=rfl
theorem AQE{γ} p  [Decidable p](x:Option γ):gd p x=if p then x else none:=rfl
theorem uF o(f:α->Option γ):bd o f=o.bind f:=by unfold bd;rw[PN];rfl
theorem ATi(F:σ->Option γ) x :jn F x=F x:=by unfold jn;rw[PN];rfl
theorem AIC F(x:Option γ):alt F x=F x:=by unfold alt;rw[PN];rfl
open Classical in
theorem AKq(a b:α)(x:Option γ):eqv a b x=if a=b then x else none:=by unfold eqv;rw[PN];rfl
theorem Co(a:α)(x:Option γ):eqv a a x=x:=by rw[AKq,AW rfl]
theorem TT{a b:α}(h:eqv a b x=some r):a=b/\x=some r:=by
 grind[AKq]
theorem ALI(F:(σ->Option γ)->σ->Option γ) x :A9 F 0 x=none:=by unfold A9;rw[PN];rfl
theorem DW(F:(σ->Option γ)->σ->Option γ) n  x :A9 F (n+1) x=F (A9 F n) x:=by
 have:∀m y,A9 F m y=ALG F m y:=λm y=>by unfold A9;rw[PN];rfl
 rw[this];show F (ALG F n) x=_;congr 1;funext y;exact(this n y).symm
inductive Cap where
 |t(x:U)|vw(k:Nat)(c:C)(xs:List c.D)|vp(k:Nat)(cs:List U)|bp(id off:Nat)
namespace Y
def mem(k:Nat):List Nat->Bool
 | []=>false|x::xs=>match Nat.beq k x with|true=>true|false=>mem k xs
def CL.is:CL->CL->Bool
 |.tmp s c,.tmp s' c'=>match Nat.beq s s' with|true=>Nat.beq c c'|false=>false
 |.cell s c,.cell s' c'=>match Nat.beq s s' with|true=>Nat.beq c c'|false=>false
 |_,_=>false
def isR(o:Option CL)(r:CL):Bool:=match o with|some r'=>CL.is r' r|none=>false
def isN(o:Option Nat)(r:Nat):Bool:=match o with|some r'=>Nat.beq r' r|none=>false
def get{α:Type}:List (Nat×α)->Nat->Option α
 | [],_=>none|(k,a)::r,s=>match Nat.beq k s with|true=>some a|false=>get r s
def put{α:Type}:List (Nat×α)->Nat->α->List (Nat×α)
 | [],s,a=>[(s,a)]|(k,b)::r,s,a=>match Nat.beq s k with
  |true=>(s,a)::r|false=>match Nat.ble s k with|true=>(s,a)::(k,b)::r|false=>(k,b)::put r s a
def KM{α:Type}(ks:List Nat):List (Nat×α)->List (Nat×α)
 | []=>[]|(k,b)::r=>match mem k ks with|true=>KM ks r|false=>(k,b)::KM ks r
def HB{α:Type}(ks:List Nat):List (Nat×α)->List (Nat×α)
 | []=>[]|(k,b)::r=>match mem k ks with|true=>(k,b)::HB ks r|false=>HB ks r
inductive AS where
 |t(x:U)|und|ow(x:U)|owh(c:C)(xs:List c.D)(hs:List (Nat×Nat))|al(r:CL)(sub:Option (Nat×Nat))|ep(r:CL)(i:Int)(j:Nat)|vw(s:Src)(c:C)(xs:List c.D)|vp(s:Src)(cs:List U)|bp(id off:Nat)|fn(n:Nat)(caps:List Cap)
structure Ent where
 sh:Sh
 cs:List AS
 ver:Nat
structure Bx where
 cs:List AS
 ver:Nat
structure St where
 tm:List (Nat×Ent)
 bx:List (Nat×Bx)
 pin:List Nat
 nv:Nat
section
variable{γ:Type}
def Db(n:Nat)(K:Nat->γ):γ:=match n with|0=>K 0|k+1=>K (k+1)
def _root_.Lv.U.GY(x:U)(K:U->γ):γ:=
 match x with
 |.top=>K .top|.int k n=>K (.int k n)|.u8 x=>K (.u8 x)|.bool b=>K (.bool b)|.str s=>K (.str s)|.nil=>K .nil|.np=>K .np|.un=>K .un|.sl c xs=>K (.sl c xs)|.mp ks=>K (.mp ks)
def eC:List U->(List U->γ)->γ| [],K=>K []|x::xs,K=>x.GY λx=>eC xs λxs=>K (x::xs)
def lP(r:CL)(K:CL->γ):γ:=
 match r with
 |.tmp s c=>Db s λs=>Db c λc=>K (.tmp s c)|.cell s c=>Db s λs=>Db c λc=>K (.cell s c)
def TV(s:Src)(K:Src->γ):γ:=
 match s with
 |.own r p=>lP r λr=>match p with|none=>K (.own r none)|some (i,j)=>Db j λj=>K (.own r (some (i,j)))
 |.old k=>Db k λk=>K (.old k)
def AS.GY(l:AS)(K:AS->γ):γ:=
 match l with
 |.t x=>x.GY λx=>K (.t x)|.und=>K .und|.ow x=>x.GY λx=>K (.ow x)|.owh c xs hs=>K (.owh c xs hs)|.al r sub=>lP r λr=>match sub with|none=>K (.al r none)|some (a,b)=>K (.al r (some (a,b)))
 |.ep r i j=>lP r λr=>Db j λj=>K (.ep r i j)|.vw s c xs=>TV s λs=>K (.vw s c xs)|.vp s cs=>TV s λs=>eC cs λcs=>K (.vp s cs)|.bp id off=>Db id λid=>Db off λoff=>K (.bp id off)|.fn n caps=>K (.fn n caps)
def Uc:List AS->(List AS->γ)->γ| [],K=>K []|x::xs,K=>x.GY λx=>Uc xs λxs=>K (x::xs)
def Ud:List (Option Nat)->(List (Option Nat)->γ)->γ| [],K=>K []|none::xs,K=>Ud xs λxs=>K (none::xs)|some n::xs,K=>Db n λn=>Ud xs λxs=>K (some n::xs)
def eB(s:Sh)(K:Sh->γ):γ:=
 match s with
 |.one=>K .one|.agg=>K .agg|.tup ns=>Ud ns λns=>K (.tup ns)|.ptr k=>K (.ptr k)|.vw k=>K (.vw k)
def vL:List (Nat×Ent)->(List (Nat×Ent)->γ)->γ| [],K=>K []|(k,⟨sh,cs,v⟩)::xs,K=>eB sh λsh=>Uc cs λcs=>Db v λv=>vL xs λxs=>K ((k,⟨sh,cs,v⟩)::xs)
def vK:List (Nat×Bx)->(List (Nat×Bx)->γ)->γ| [],K=>K []|(k,⟨cs,v⟩)::xs,K=>Uc cs λcs=>Db v λv=>vK xs λxs=>K ((k,⟨cs,v⟩)::xs)
def vM:List Nat->(List Nat->γ)->γ| [],K=>K []|x::xs,K=>vM xs λxs=>K (x::xs)
def St.GY(S:St)(K:St->γ):γ:=
 match S with
 |⟨tm,bx,pin,nv⟩=>vL tm λtm=>vK bx λbx=>vM pin λpin=>Db nv λnv=>K ⟨tm,bx,pin,nv⟩
end
structure En where
 sh:Sh
 cs:List AS
def AS.B8:AS->Option CL|.al r _=>some r|.ep r _ _=>some r|.vw (.own r _) _ _=>some r|.vp (.own r _) _=>some r|_=>none
def _root_.Lv.Cap.Mg:Cap->Option Nat|.bp id _=>some id|_=>none
def AS.Mg:AS->Option Nat|.bp id _=>some id|.al (.cell id _) _=>some id|.ep (.cell id _) _ _=>some id|.vw (.own (.cell id _) _) _ _=>some id|.vp (.own (.cell id _) _) _=>some id|_=>none
def AS.AY8:AS->Option Cap|.t x=>some (.t x)|.vw (.old k) c xs=>some (.vw k c xs)|.vp (.old k) cs=>some (.vp k cs)|.bp id off=>some (.bp id off)|_=>none
def _root_.Lv.Cap.leaf:Cap->AS|.t x=>.t x|.vw k c xs=>.vw (.old k) c xs|.vp k cs=>.vp (.old k) cs|.bp id off=>.bp id off
def names:AS->List Nat|.bp id _=>[id]|.fn _ caps=>caps.filterMap Lv.Cap.Mg|_=>[]
def Eo(q:AS->Bool):List AS->List AS| []=>[]|l::ls=>(if q l=true then .t .top else l)::Eo q ls
def Lr(v:Nat)(q:AS->Bool):List (Nat×Ent)->List (Nat×Ent)| []=>[]|(k,e)::r=>(k,if e.cs.any q=true then ⟨e.sh,Eo q e.cs,v⟩ else e)::Lr v q r
def Lq(v:Nat)(q:AS->Bool):List (Nat×Bx)->List (Nat×Bx)| []=>[]|(k,e)::r=>(k,if e.cs.any q=true then ⟨Eo q e.cs,v⟩ else e)::Lq v q r
def St.kill(S:St)(q:AS->Bool):St:=⟨Lr S.nv q S.tm,Lq S.nv q S.bx,S.pin,S.nv+1⟩
def St.Kl(S:St)(d:Nat)(sh:Sh)(cs:List AS):St:=⟨put S.tm d ⟨sh,cs,S.nv⟩,S.bx,S.pin,S.nv+1⟩
def St.O7(S:St)(d:Nat)(cs:List AS):St:=⟨S.tm,put S.bx d ⟨cs,S.nv⟩,S.pin,S.nv+1⟩
def MK(r:CL)(l:AS):Bool:=isR l.B8 r
def Fo(r:CL):AS->Bool|.vw (.own r' _) _ _=>CL.is r' r|.vp (.own r' _) _=>CL.is r' r|_=>false
def FO(d:Nat)(l:AS):Bool:=match l.B8 with|some (.tmp s _)=>Nat.beq s d|_=>false
def GA(d:Nat):AS->Bool|.fn _ caps=>caps.any λl=>isN l.Mg d|l=>isN l.Mg d
def MJ(ks:List Nat):AS->Bool
 |.fn _ caps=>caps.any λl=>match l.Mg with|some d=>!mem d ks|none=>false
 |l=>match l.Mg with|some d=>!mem d ks|none=>false
def JB(ks:List Nat)(l:AS):Bool:=
 (match l.B8 with|some (.tmp s _)=>!mem s ks|_=>false)||MJ ks l
def aI(ks:List Nat)(l:AS):Bool:=match l.B8 with|some (.tmp s _)=>mem s ks|_=>false
def St.Ir(S:St)(ks:List Nat):St:=⟨Lr S.nv (aI ks) (KM ks S.tm),Lq S.nv (aI ks) S.bx,S.pin,S.nv+1⟩
def St.clean(S:St)(ks:List Nat):St:=⟨Lr S.nv (JB ks) (HB ks S.tm),Lq S.nv (JB ks) (HB ks S.bx),S.pin,S.nv+1⟩
def AS.refs(l:AS):List Nat:=(match l.B8 with|some (.tmp s _)=>[s]|some (.cell b _)=>[b]|none=>[])++names l
def AVg(ks:List Nat):List (Nat×Ent)->List Nat
 | []=>[]|(k,e)::r=>match mem k ks with|true=>e.cs.flatMap AS.refs++AVg ks r|false=>AVg ks r
def AVf(ks:List Nat):List (Nat×Bx)->List Nat
 | []=>[]|(k,e)::r=>match mem k ks with|true=>e.cs.flatMap AS.refs++AVf ks r|false=>AVf ks r
def St.clo(S:St):Nat->List Nat->List Nat
 |0,ks=>ks|n+1,ks=>match (AVg ks S.tm++AVf ks S.bx).filter (λk=>!mem k ks) with| []=>ks|more=>S.clo n (ks++more)
def St.fI(S:St)(ks:List Nat):St:=S.clean (S.clo 6 (S.pin++ks))
def St.at(S:St):CL->Option AS
 |.tmp s c=>match get S.tm s with|some e=>e.cs[c]?|none=>none
 |.cell b c=>match get S.bx b with|some ls=>ls.cs[c]?|none=>none
def St.Bi(S:St)(r:CL)(l:AS):St:=
 match r with
 |.tmp s c=>match get S.tm s with|some e=>S.Kl s e.sh (e.cs.set c l)|none=>S
 |.cell b c=>match get S.bx b with|some ls=>S.O7 b (ls.cs.set c l)|none=>S
inductive Rw where
 |nl|of(c:C)(xs:List c.D)
def content:U->Option Rw|.nil=>some .nl|.sl c xs=>some (.of c xs)|_=>none
def oG{α:Type}(sub:Option (Nat×Nat))(xs:List α):List α:=
 match sub with
 |none=>xs|some (lo,n)=>(xs.drop lo).take n
def Rw.sub(sub:Option (Nat×Nat)):Rw->Rw|.nl=>.nl|.of c xs=>.of c (oG sub xs)
def Rw.as(c:C):Rw->Option (List c.D)|.nl=>some []|.of c' xs=>if h:c'=c then some (h▸xs) else none
def AHz(sub:Option (Nat×Nat)):U->U|.sl c xs=>.sl c (oG sub xs)|x=>x
def St.elems(S:St):AS->Option Rw
 |.al r sub=>match S.at r with
  |some (.ow x)=>match content x with|some w=>some (w.sub sub)|none=>none
  |_=>none
 |.vw _ c xs=>some (.of c xs)|.t .nil=>some .nl|_=>none
def AS.ali(s c:Nat):AS->AS|.ow _=>.al (.tmp s c) none|.owh _ _ _=>.al (.tmp s c) none|l=>l
def Sk(s:Nat):Nat->List AS->List AS|_,[]=>[]|c,l::ls=>l.ali s c::Sk s (c+1) ls
def sR:U->AS|.sl c xs=>.vw (.old 0) c xs|x=>.t x
inductive YO where
 |tmp(t:Nat)|k(x:U)|fn(n:Nat)
def St.rd(S:St):YO->Option En
 |.tmp s=>match get S.tm s with|some e=>some ⟨e.sh,Sk s 0 e.cs⟩|none=>none
 |.k x=>some ⟨.one,[sR x]⟩|.fn n=>some ⟨.one,[.fn n []]⟩
def St.rds(S:St):List YO->Option (List En)
 | []=>some []|x::xs=>match S.rd x,S.rds xs with|some e,some es=>some (e::es)|_,_=>none
def St.EY(S:St)(d:Nat)(sh:Sh)(cs:List AS):Option St:=
 match mem d S.pin with|true=>none|false=>match get S.tm d with|none=>some (S.Kl d sh cs)|some _=>some ((S.kill (FO d)).Kl d sh (Eo (FO d) cs))
def T3(l l':AS):Bool:=
 (match l.B8 with|some r=>isR l'.B8 r|none=>false)||(names l).any (λid=>GA id l')||(names l').any (λid=>GA id l)
def SA(l l':AS):Bool:=
 (match l.B8 with|some r=>isR l'.B8 r|none=>false)||(names l).any (λid=>GA id l')
def xj:AS->Bool|.al _ _=>true|_=>false
def O2:List AS->Bool
 | []=>true|l::ls=>(ls.all λl'=>!((xj l||xj l')&&(match l.B8 with|some r=>isR l'.B8 r|none=>l'.B8.isNone)))&&O2 ls
def St.out(S:St)(r:CL):St:=(S.Bi r (.t .top)).kill (MK r)
def St.nl0(S:St)(r:CL)(c:C):AS:=match r with|.cell id _=>(match mem id S.pin with|true=>.vw (.old id) c []|false=>.ow (.sl c []))|.tmp _ _=>.ow (.sl c [])
def St.turn(S:St)(r:CL):St:=match S.at r with
 |some (.al r' none)=>match S.at r' with|some (.ow x)=>((S.out r').Bi r (.ow x)).Bi r' (.al r none)|some (.owh c xs hs)=>((S.out r').Bi r (.owh c xs hs)).Bi r' (.al r none)|_=>S
 |_=>S
def St.ae(S:St)(r:CL)(c:C):St:=match Nat.beq c.size 0 with
 |true=>S.turn r|false=>match S.at r with|some (.t .nil)=>S.Bi r (S.nl0 r c)|_=>S
def St.Rv(S:St):List (CL×C)->St| []=>S|(r,c)::ns=>St.Rv (S.ae r c) ns
def KU:St->List AS->Option (St×List AS)
 |S,[]=>some (S,[])|S,l::ls=>match l with
  |.al r sub=>match S.at r with
   |some (.ow x)=>match KU (S.out r) ls with|some (S',ls')=>some (S',.ow (AHz sub x)::ls')|none=>none
   |_=>none
  |l=>match KU S ls with|some (S',ls')=>some (S',l::ls')|none=>none
def Lx(S:St)(ls:List AS):Option (St×List AS):=if O2 ls=true then KU S ls else none
def uI(S:St)(x:YO)(ls:List AS):Option (St×List AS):=match x with|.tmp s=>(match mem s S.pin with|true=>some (S,ls)|false=>Lx S ls)|_=>Lx S ls
def Sa:U->Bool|.top=>true|_=>false
def aN:U->Bool|.top=>true|.un=>true|_=>false
def St.pull(S:St)(r:CL)(i j:Nat):Option St:=
 match S.at r with
 |some (.ow (.sl c xs))=>some ((S.Bi r (.owh c xs [(i,j)])).kill (Fo r))|some (.owh c xs hs)=>some ((S.Bi r (.owh c xs (hs++[(i,j)]))).kill (Fo r))|_=>none
def onR(r:CL):List AS->Bool| []=>false|l::ls=>isR l.B8 r||onR r ls
def D1:St->List AS->Option (St×List U)
 |S,[]=>some (S,[])|S,l::ls=>match l with
  |.t x=>if Sa x=true then none else match D1 S ls with|some (S',cs)=>some (S',x::cs)|none=>none
  |.al r sub=>match S.at r with
   |some (.ow x)=>match D1 (S.out r) ls with|some (S',cs)=>some (S',AHz sub x::cs)|none=>none
   |_=>none
  |.vw (.own r p) c xs=>match p with
   |none=>match S.at r with
    |some (.ow _)=>match D1 (S.out r) ls with|some (S',cs)=>some (S',.sl c xs::cs)|none=>none
    |_=>none
   |some (i,j)=>if onR r ls=true then none else match S.pull r i j with
    |some S1=>match D1 S1 ls with|some (S',cs)=>some (S',.sl c xs::cs)|none=>none
    |none=>none
  |_=>none
def St.Hr(S:St):AS->Option U
 |.t x=>some x|.al r sub=>match S.at r with|some (.ow x)=>some (AHz sub x)|_=>none
 |.vw _ c xs=>some (.sl c xs)|.ow x=>some x|_=>none
def St.Hk(S:St):List AS->Option (List U)
 | []=>some []|l::ls=>match S.Hr l,S.Hk ls with|some x,some xs=>some (x::xs)|_,_=>none
def QC(k:Nat):AS->Option U|.t x=>some x|.vw (.old k') c xs=>if k'=k then some (.sl c xs) else none|_=>none
def F6(k:Nat):List AS->Option (List U)
 | []=>some []|l::ls=>match QC k l,F6 k ls with|some x,some xs=>some (x::xs)|_,_=>none
def Dh:List AS->Nat| []=>0|.vw (.old k) _ _::_=>k|_::ls=>Dh ls
def Eh(k:Nat):U->AS|.sl c xs=>.vw (.old k) c xs|.mp _=>.t .top|x=>.t x
def KR:U->AS|.sl c xs=>.ow (.sl c xs)|.mp ks=>.ow (.mp ks)|.nil=>.ow .nil|x=>.t x
def LN(s:Src):U->AS|.sl c xs=>.vw s c xs|.mp _=>.t .top|x=>.t x
def Pc:List AS->Bool| []=>true|l::ls=>l.B8.isNone&&Pc ls
def R5:AS->Bool|.t _=>true|.al _ none=>true|.vw (.own _ (some _)) _ _=>true|_=>false
def AY9(S:St):Bool->Cap->Option (List U)
 |false,.t x=>some [x]|false,.vw _ c xs=>some [.sl c xs]|true,.bp id off=>match get S.bx id with|some ls=>if Pc ls.cs=true then S.Hk (ls.cs.drop off) else none|none=>none
 |true,.vp _ cs=>some cs|_,_=>none
def AIY(S:St):(l:List (Bool×C))->List Cap->Option (tk l)
 | [],[]=>some ()|(m,c)::r,l::ls=>match AY9 S m l with
  |some us=>match ofC c us,AIY S r ls with|some x,some y=>some (x,y)|_,_=>none
  |none=>none
 |_,_=>none
section
variable(R:List GF)
def AYx(S:St)(c:C)(e:En):Option c.D:=match S.Hk e.cs with|some us=>ofC c us|none=>none
def AYv(S:St)(fs:List Nat)(l:List (Bool×C))(e:En):Option (tk l):=
 match e with
 |⟨.one,[.fn n caps]⟩=>match fs with|n'::_=>if n'=n then AIY S l caps else none| []=>none
 |_=>none
def AYw(S:St)(c:C)(e:En):Option c.D:=
 match e with
 |⟨.one,[.bp id off]⟩=>match get S.bx id with
  |some ls=>if Pc ls.cs=true then match S.Hk (ls.cs.drop off) with|some us=>ofC c us|none=>none else none
  |none=>none
 |⟨.one,[.vp _ cs]⟩=>ofC c cs|_=>none
def AYu(S:St)(c:C)(e:En):Option c.D:=
 match e with
 |⟨.one,[.bp id 0]⟩=>match get S.bx id with
  |some ls=>match F6 (Dh ls.cs) ls.cs with|some us=>ofC c us|none=>none
  |none=>none
 |_=>none
def PK.FP:PK->Bool|.o _=>true|.m _=>true|_=>false
def PK.writes:PK->Bool|.b _=>true|.o _=>true|.m _=>true|_=>false
def Hp:List PK->List En->List AS|k::ks,e::es=>(if PK.FP k=true then e.cs else [])++Hp ks es|_,_=>[]
def AOQ:Sh->Sh->Bool|.one,.one=>true|.agg,.agg=>true|_,_=>false
def Jd(S:St):List Nat->(ks:List PK)->List En->List U->Option (A ks)
 |_,[],[],_=>some ()|fs,k::ks,e::es,us=>match k with
  |.o c=>if AOQ e.sh (shC c)=true then match ofC c (us.take e.cs.length),Jd S fs ks es (us.drop e.cs.length) with|some x,some y=>some (x,y)|_,_=>none else none
  |.m c=>if AOQ e.sh (shC c)=true/\e.cs.all R5=true/\Gn e.sh e.cs.length=true then match ofC c (us.take e.cs.length),Jd S fs ks es (us.drop e.cs.length) with|some x,some y=>some (x,y)|_,_=>none else none
  |.f x l=>match AYv S fs l e,Jd S fs.tail ks es us with|some x,some y=>some (x,y)|_,_=>none
  |.v c=>if AOQ e.sh (shC c)=true then match AYx S c e,Jd S fs ks es us with|some x,some y=>some (x,y)|_,_=>none else none
  |.p c=>match AYw S c e,Jd S fs ks es us with|some x,some y=>some (x,y)|_,_=>none
  |.b c=>match AYu S c e,Jd S fs ks es us with|some x,some y=>some (x,y)|_,_=>none
 |_,_,_,_=>none
def E6:St->List PK->List En->St
 |S,k::ks,e::es=>match k with
  |.b _=>match e with
   |⟨.one,[.bp id 0]⟩=>match get S.bx id with|some ls=>E6 (S.O7 id (ls.cs.map λ_=>.t .top)) ks es|none=>E6 S ks es
   |_=>E6 S ks es
  |_=>E6 S ks es
 |S,_,_=>S
def WT(S:St)(fs:List Nat)(ks:List PK)(es:List En):Option (St×A ks):=
 match D1 S (Hp ks es) with
 |some (S1,us)=>match Jd S fs ks es us with|some a=>some (E6 S1 ks es,a)|none=>none
 |none=>none
def Hn{ρ:Type}:St->List AS->List U->(St->Option ρ)->Option ρ
 |S,[],[],K=>K S|S,l::ls,o::os,K=>match l with
  |.al r none=>Hn (S.Bi r (.ow o)) ls os K|.vw (.own r (some (i,j))) _ _=>match S.at r with
   |some (.owh c xs ((i',j')::hs))=>if j'=j/\hs.all (λp=>!Nat.beq p.2 j)=true then gd (i'=i) (bd xs[i]? λx=>match ofC c ((cells c x).set j o) with
    |some x'=>Hn ((S.Bi r (match hs with | []=>.ow (.sl c (xs.set i x'))|_=>.owh c (xs.set i x') hs)).kill (Fo r)) ls os K
    |none=>none)
    else none
   |_=>none
  |.t _=>Hn S ls os K|_=>none
 |_,_,_,_=>none
def F5{ρ:Type}(S0:St):St->List PK->List En->List (List U)->(St->Option ρ)->Option ρ
 |S,[],_,[],K=>K S|S,k::ks,e::es,outs,K=>match k with
  |.b _=>match e,outs with
   |⟨.one,[.bp id 0]⟩,o::outs=>match get S0.bx id,get S.bx id with|some ls,some ls1=>if o.length=ls1.cs.length then F5 S0 (S.O7 id (o.map (Eh (Dh ls.cs)))) ks es outs K else none|_,_=>none
   |_,_=>none
  |.m _=>match outs with|o::outs=>Hn S e.cs o λS'=>F5 S0 S' ks es outs K|_=>none
  |_=>F5 S0 S ks es outs K
 |_,_,_,_,_=>none
def shares(e e':En):Bool:=e.cs.any λl=>e'.cs.any λl'=>T3 l l'
def QG:List En->List PK->List En->Bool|prev,k::ks,e::es=>(PK.writes k&&(prev.any (shares e)||es.any (shares e)))||QG (e::prev) ks es|_,_,_=>false
def AHt:Option En->Option U|some ⟨.one,[.t x]⟩=>some x|_=>none
def St.sc(S:St)(x:YO):Option U:=AHt (S.rd x)
def Aal:U->Option Int|.int _ n=>some n|.u8 x=>some (x.toNat:Int)|_=>none
def St.nat(S:St)(x:YO):Option Int:=match S.sc x with|some u=>Aal u|none=>none
def St.one(S:St)(x:YO):Option AS:=match S.rd x with|some ⟨.one,[l]⟩=>some l|_=>none
def eqU:Kd->U->U->Option Bool|.i,.int k a,.int k' b=>if k=k' then some (a==b) else none|.b,.bool a,.bool b=>some (a==b)|.s,.str a,.str b=>some (a==b)|_,_,_=>none
def ADP:List Kd->List U->List U->Option Bool
 | [],[],[]=>some true|k::ks,a::as,b::bs=>match eqU k a b,ADP ks as bs with|some x,some y=>some (x&&y)|_,_=>none
 |_,_,_=>none
def WM:List AS->Option (List U)
 | []=>some []|.t x::ls=>match WM ls with|some us=>some (x::us)|none=>none
 |_=>none
section
variable{ρ:Type}
def gdc(cst:Bool)(p:Prop) [Decidable p] (x:Option ρ):Option ρ:=match cst with|true=>if p then x else none|false=>gd p x
def AZQ(cst:Bool)(op:BinOp)(k:IntKind)(a b:Int)(K:U->Option ρ):Option ρ:=
 match op with
 |.add=>K (.int k (k.wrap (a+b)))|.sub=>K (.int k (k.wrap (a-b)))|.mul=>K (.int k (k.wrap (a*b)))|.quo=>gdc cst (b≠0) (K (.int k (k.wrap (a.tdiv b))))|.rem=>gdc cst (b≠0) (K (.int k (a.tmod b)))|.and=>K (.int k (k.wrap (BitVec.ofInt k.bits a &&& BitVec.ofInt k.bits b).toNat))|.or=>K (.int k (k.wrap (BitVec.ofInt k.bits a |||BitVec.ofInt k.bits b).toNat))|.xor=>K (.int k (k.wrap (BitVec.ofInt k.bits a ^^^ BitVec.ofInt k.bits b).toNat))|.eql=>K (.bool (a==b))|.neq=>K (.bool (a != b))|.lss=>K (.bool (decide (a<b)))|.leq=>K (.bool (decide (a<=b)))|.gtr=>K (.bool (decide (a>b)))|.geq=>K (.bool (decide (a>=b)))|_=>none
def shU(cst:Bool)(op:BinOp)(k:IntKind)(a b:Int)(K:U->Option ρ):Option ρ:=
 match op with
 |.shl=>gdc cst (¬b<0) (K (.int k (k.wrap (a*2 ^ (min b.toNat k.bits)))))|.shr=>gdc cst (¬b<0) (K (.int k (a.fdiv (2 ^ (min b.toNat k.bits)))))|_=>none
def byU(op:BinOp)(a b:Int)(K:U->Option ρ):Option ρ:=
 match op with
 |.add=>K (.u8 (toB (a+b)))|.sub=>K (.u8 (toB (a-b)))|.mul=>K (.u8 (toB (a*b)))|.and=>K (.u8 (toB (BitVec.ofInt IntKind.u8.bits a &&& BitVec.ofInt IntKind.u8.bits b).toNat))|.or=>K (.u8 (toB (BitVec.ofInt IntKind.u8.bits a |||BitVec.ofInt IntKind.u8.bits b).toNat))|.xor=>K (.u8 (toB (BitVec.ofInt IntKind.u8.bits a ^^^ BitVec.ofInt IntKind.u8.bits b).toNat))|.eql=>K (.bool (a==b))|.neq=>K (.bool (a != b))|.lss=>K (.bool (decide (a<b)))|.leq=>K (.bool (decide (a<=b)))|.gtr=>K (.bool (decide (a>b)))|.geq=>K (.bool (decide (a>=b)))|_=>none
def AXS:BinOp->Bool|.shl=>true|.shr=>true|_=>false
def AY2(cst:Bool)(op:BinOp):U->U->(U->Option ρ)->Option ρ
 |.int k a,.int k' b,K=>if AXS op=true then shU cst op k a b K else if k=k' then (if k=.u8 then none else AZQ cst op k a b K) else none|.int k a,.u8 b,K=>if AXS op=true then shU cst op k a b.toNat K else none|.u8 a,.u8 b,K=>byU op a.toNat b.toNat K|.str a,.str b,K=>match op with|.add=>gd (a.length+b.length<=P0) (K (.str (a++b)))|.eql=>K (.bool (a==b))|.neq=>K (.bool (a != b))|_=>none
 |_,_,_=>none
def eqK(op:BinOp)(b:Bool)(K:U->Option ρ):Option ρ:=match op with|.eql=>K (.bool b)|.neq=>K (.bool !b)|_=>none
def St.V3(S:St)(l:AS)(K:Bool->Option ρ):Option ρ:=
 match l with
 |.t .nil=>K true|.vw _ _ xs=>gd (xs.isEmpty=false) (K false)|.al r none=>match S.at r with|some (.ow .nil)=>K true|some (.ow (.sl _ xs))=>gd (xs.isEmpty=false) (K false)|_=>none
 |_=>none
def St.bin(S:St)(cst:Bool)(c:Cls)(op:BinOp)(x y:En)(K:U->Option ρ):Option ρ:=
 match c with
 |.num=>match x,y with|⟨.one,[.t a]⟩,⟨.one,[.t b]⟩=>AY2 cst op a b K|_,_=>none
 |.bool=>match x,y with|⟨.one,[.t (.bool a)]⟩,⟨.one,[.t (.bool b)]⟩=>eqK op (a==b) K|_,_=>none
 |.sl=>match x,y with|⟨.one,[l]⟩,⟨.one,[.t .nil]⟩=>S.V3 l λb=>eqK op b K|_,_=>none
 |.agg ks=>match x,y with
  |⟨.agg,as⟩,⟨.agg,bs⟩=>match WM as,WM bs with
   |some as,some bs=>match ADP ks as bs with|some b=>eqK op b K|none=>none
   |_,_=>none
  |_,_=>none
def unU(op:UnOp)(x:U)(K:U->Option ρ):Option ρ:=
 match x with
 |.bool b=>match op with|.not=>K (.bool !b)|_=>none
 |.int k n=>match op with|.neg=>if k=.u8 then none else K (.int k (k.wrap (0-n)))|_=>none
 |_=>none
def mkInt(k:IntKind)(n:Int):U:=match k with|.u8=>.u8 (toB n)|k=>.int k (k.wrap n)
end
def AYS:List U->Bool| []=>true|.sl _ _::_=>false|.top::_=>false|.mp _::_=>false|_::us=>AYS us
def VD:C->Bool
 |.l _=>false|.m=>false|.st n=>match AYn n with|some z=>AYS (AFQ n z)|none=>false
 |.un _=>false|_=>true
def AWb(c:C)(x:U)(ys:List c.D):Option U:=
 match x with
 |.sl c' xs=>if h:c'=c then some (.sl c ((h▸xs)++ys)) else none|_=>some (.sl c ys)
def P5(c:C)(fl:Bool)(S:St)(l:AS):Option (St×List c.D):=
 match l with
 |.t (.str s)=>match Rw.as c (.of .u s) with|some xs=>some (S,xs)|none=>none
 |.t .nil=>some (S,[])|.vw _ c' xs=>if VD c=true then match Rw.as c (.of c' xs) with|some ys=>some (S,ys)|none=>none else none
 |.al r sub=>match S.at r with
  |some (.ow x)=>match content x with
   |some w=>match Rw.as c (w.sub sub) with|some ys=>if fl=true then (if VD c=true then some (S,ys) else none) else some (S.out r,ys)|none=>none
   |none=>none
  |_=>none
 |_=>none
def SU(c:C)(S:St)(l:AS):Option (St×U×Nat×Option (Nat×Nat)):=
 match l with
 |.t .nil=>some (S,.nil,0,none)|.al r sub=>match S.at r with
  |some (.ow x)=>match content x with
   |some w=>match Rw.as c w with
    |some xs=>some (S.out r,AHz sub x,(oG sub xs).length,match sub with|none=>none|some (lo,n)=>some (lo+n,xs.length))
    |none=>none
   |none=>none
  |_=>none
 |.vw (.own r (some (i,j))) c' xs=>if c'=c then match S.pull r i j with|some S'=>some (S',.sl c' xs,xs.length,none)|none=>none else none
 |_=>none
def gdo{γ:Type}(p:Option (Nat×Nat))(x:Option γ):Option γ:=match p with|none=>x|some (a,b)=>gd (a=b) x
def NM(off:Nat):AS->Option AS|.bp id o=>some (.bp id (o+off))|.ep r i j=>some (.ep r i (j+off))|.vp s cs=>some (.vp s (cs.drop off))|_=>none
def KD(r:CL)(i:Nat):Nat->List U->List AS|_,[]=>[]|j,x::xs=>LN (.own r (some (i,j))) x::KD r i (j+1) xs
def RI(b:Nat):Nat->List AS->List AS|_,[]=>[]|c,.ow _::ls=>.al (.cell b c) none::RI b (c+1) ls|c,.owh _ _ _::ls=>.al (.cell b c) none::RI b (c+1) ls|c,l::ls=>l::RI b (c+1) ls
def Ie(b o n:Nat)(l:AS):Bool:=match l.B8 with|some (.cell b' c)=>Nat.beq b' b&&Nat.ble o c&&Nat.blt c (o+n)|_=>false
def IU:List AS->Bool| []=>false|.t .top::_=>true|.und::_=>true|_::ls=>IU ls
def SZ:AS->Bool|.bp _ _=>true|.ep _ _ _=>true|.vp _ _=>true|_=>false
section
variable{ρ:Type}
def St.load(S:St)(n:Nat)(l:AS)(K:List AS->Option ρ):Option ρ:=
 match l with
 |.bp id o=>match get S.bx id with|some ls=>if o+n<=ls.cs.length then K (RI id o ((ls.cs.drop o).take n)) else none|none=>none
 |.ep r i j=>match S.at r with|some (.ow (.sl c xs))=>bd (at? xs i) λx=>if j+n<=(cells c x).length then K (KD r i.toNat j (((cells c x).drop j).take n)) else none|_=>none
 |.vp s cs=>if n<=cs.length then K ((cs.take n).map (LN s.up)) else none|_=>none
def Pr(i j n:Nat):List (Nat×Nat)->Prop| []=>True|(i',j')::hs=>i'=i/\(j<=j'/\j'<j+n)/\Pr i j n hs
def eF(i j n:Nat):(hs:List (Nat×Nat))->Decidable (Pr i j n hs)| []=>.isTrue trivial|(i',j')::hs=>@instDecidableAnd _ _ (instDecidableEqNat i' i) (@instDecidableAnd _ _ (@instDecidableAnd _ _ (Nat.decLe j j') (Nat.decLt j' (j+n))) (eF i j n hs))
def Y2(n:Nat)(S:St)(ls:List AS):Option (St×List AS):=match Nat.blt n 1048576 with|true=>Lx S ls|false=>some (S,ls)
def St.SJ(S:St)(n:Nat)(p:AS)(cs:List AS)(K:St->Option ρ):Option ρ:=
 match p with
 |.bp id o=>match Y2 n S cs with
  |some (S',cs')=>if IU cs'=true then none else
   let S2:=S'.kill (Ie id o cs'.length)
   match get S2.bx id with
   |some ls=>if o+cs'.length<=ls.cs.length then K (S2.O7 id (EC ls.cs o (Eo (Ie id o cs'.length) cs'))) else none|none=>none
  |none=>none
 |.ep r i j=>match D1 S cs with
  |some (S',us)=>match S'.at r with
   |some (.ow (.sl c xs))=>bd (at? xs i) λx=>if j+us.length<=(cells c x).length then match ofC c (EC (cells c x) j us) with
    |some x'=>K ((S'.Bi r (.ow (.sl c (xs.set i.toNat x')))).kill (Fo r))|none=>none
    else none
   |some (.owh c xs hs)=>bd (at? xs i) λx=>if j+us.length<=(cells c x).length then match ofC c (EC (cells c x) j us) with
    |some x'=>@gd _ (Pr i.toNat j us.length hs) (eF i.toNat j us.length hs) (K ((S'.Bi r (.ow (.sl c (xs.set i.toNat x')))).kill (Fo r)))|none=>none
    else none
   |_=>none
  |none=>none
 |_=>none
end
def M7(S:St):List AS->List (Nat×Nat×YO)->Option (List AS)
 |ls,[]=>some ls|ls,(o,n,x)::ps=>match S.rd x with|some e=>if e.cs.length=n/\Gn e.sh n=true/\IU e.cs=false/\o+n<=ls.length then M7 S (EC ls o e.cs) ps else none|none=>none
def ADm(i n:Nat):List (Nat×YO)->Bool| []=>i==n|(k,_)::ps=>k==i&&ADm (i+1) n ps
def bsL(c:C)(n:Nat):St->List (Nat×YO)->Option (St×List c.D)
 |S,[]=>some (S,[])|S,(i,x)::ps=>match S.rd x with
  |some e=>if e.cs.length=c.size/\Gn e.sh e.cs.length=true/\i<n then match D1 S e.cs with
   |some (S',us)=>match ofC c us,bsL c n S' ps with|some y,some (S2,ys)=>some (S2,y::ys)|_,_=>none
   |none=>none
   else none
  |none=>none
def bsK(c:C)(n:Nat):St->List c.D->List (Nat×YO)->Option (St×List c.D)
 |S,xs,[]=>some (S,xs)|S,xs,(i,x)::ps=>match S.rd x with
  |some e=>if e.cs.length=c.size/\Gn e.sh e.cs.length=true/\i<n then match D1 S e.cs with
   |some (S',us)=>match ofC c us with|some y=>bsK c n S' (xs.set i y) ps|none=>none
   |none=>none
   else none
  |none=>none
def ADn:Sh->Bool|.one=>true|_=>false
def St.wide(S:St)(c:C):AS->Bool
 |.vw _ c' _=>decide (c'=c)|.al r _=>match S.at r with
  |some (.ow x)=>match x with|.sl c' _=>decide (c'=c)|_=>true
  |some (.owh c' _ _)=>decide (c'=c)|_=>false
 |_=>true
inductive YOp where
 |mv(d:Nat)(x:YO)|as(d:Nat)(x:YO)|pick(d:Nat)(c a b:YO)|alloc(d:Nat)(zs:List U)|box(d:Nat)(x:YO)|build(d:Nat)(zs:List U)(parts:List (Nat×Nat×YO))|CC(d:Nat)(n:Nat)(c:C)(parts:List (Nat×YO))|ld(d:Nat)(n:Option Nat)(x:YO)|st(n:Nat)(x v:YO)|chk(d:Nat)(x:YO)|bin(d:Nat)(c:Cls)(op:BinOp)(x y:YO)|un(d:Nat)(op:UnOp)(x:YO)|cvI(d:Nat)(k:IntKind)(x:YO)|Nf(d:Nat)(x:YO)|Pk(d:Nat)(x:YO)|No(d:Nat)(n:Nat)(caps:List YO)|Sg(d:Nat)(c:C)(n:YO)|sub(d:Nat)(c:C)(x:YO)(lo hi:Option YO)|WK(d:Nat)(x:YO)(lo hi:Option YO)|fa(d:Nat)(off:Nat)(x:YO)|fld(d:Nat)(off:Nat)(n:Option Nat)(x:YO)|ia(d:Nat)(c:C)(x i:YO)|ix(d:Nat)(x i:YO)|ext(d:Nat)(x:YO)(i:Nat)|call (d:Nat) (g:GF) (fs:List Nat) (hf:fs.map (λn=>(R[n]?).map GF.x)=(fX g.ps).map some) (args:List YO)|ED(d:Nat)(x:YO)(ms:List Md)(args:List YO)|len(d:Nat)(x:YO)|lens(d:Nat)(x:YO)|app(d:Nat)(c:C)(fl:Bool)(x y:YO)|Sl(d:Nat)(c:C)(x n:YO)|cpy(d:Nat)(c:C)(x y:YO)|mm(d:Nat)(isMax:Bool)(x y:YO)|mmk(d:Nat)|U1(d:Nat)(x k:YO)|To(x k v:YO)|U2(d:Nat)(x:YO)|bad(d:Option Nat)|drop(ds:List Nat)|Qn(ns:List (CL×C))
section
variable {R} {ρ:Type}
def range(S:St)(len:Nat)(lo hi:Option YO)(K:Nat->Nat->Option ρ):Option ρ:=
 match lo,hi with
 |none,none=>K 0 len|some x,none=>match S.nat x with|some a=>gd (0<=a/\a<=(len:Int)) (K a.toNat len)|none=>none
 |none,some y=>match S.nat y with|some b=>gd (0<=b/\b<=(len:Int)) (K 0 b.toNat)|none=>none
 |some x,some y=>match S.nat x,S.nat y with|some a,some b=>gd (0<=a/\a<=b/\b<=(len:Int)) (K a.toNat b.toNat)|_,_=>none
def part{α:Type}(lo hi:Option YO)(xs:List α)(a b:Nat):List α:=
 match lo,hi with
 |none,none=>xs|some _,none=>xs.drop a|none,some _=>xs.take b|some _,some _=>(xs.drop a).take (b-a)
def AXo{α γ:Type}(s:Nat)(a:α):List (Nat×α)->(List (Nat×α)->γ)->γ
 | [],K=>K [(s,a)]|(k,b)::r,K=>match Nat.beq s k with
  |true=>K ((s,a)::r)|false=>match Nat.ble s k with|true=>K ((s,a)::(k,b)::r)|false=>AXo s a r λr=>K ((k,b)::r)
def Hs(S:St)(d:Nat)(sh:Sh)(cs:List AS)(K:St->Option ρ):Option ρ:=
 match mem d S.pin with
 |true=>none|false=>match get S.tm d with|none=>eB sh λsh=>Uc cs λcs=>Db S.nv λv=>AXo d ⟨sh,cs,v⟩ S.tm λtm=>K ⟨tm,S.bx,S.pin,v+1⟩|some _=>((S.kill (FO d)).Kl d sh (Eo (FO d) cs)).GY K
def mU(S:St)(e:En):Option Nat:=
 match e with
 |⟨.one,[.bp id _]⟩=>match get S.bx id with|some ls=>if (F6 (Dh ls.cs) ls.cs).isSome=true then some (Dh ls.cs) else none|none=>none
 |e=>if (F6 (Dh e.cs) e.cs).isSome=true then some (Dh e.cs) else none
def mV(ks:List PK)(S0:St)(es:List En)(k:Nat):Option Nat:=
 match es[k]? with
 |some e=>match ks[k]? with|some (.p _)=>none|_=>mU S0 e
 |none=>none
def Qm(S:St)(d:Nat)(ls:List AS)(K:St->Option ρ):Option ρ:=
 match mem d S.pin with|true=>none|false=>K (((S.kill (λl=>FO d l||GA d l)).Kl d .one [.bp d 0]).O7 d ls)
def Sq:(cs:List C)->Tu cs->List (List U)| [],_=>[]| [c],x=>[cells c x]|c::c'::cs,x=>cells c x.1::Sq (c'::cs) x.2
def post(d:Nat)(g:GF)(es:List En)(S0 S:St)(r:Tu (g.rk.cs++MN g.ps))(K:St->Option ρ):Option ρ:=
 F5 S0 S g.ps es ((Sq _ r).drop g.rk.cs.length) λS'=>
  match g.rk with
  |.ptr k _=>match mV g.ps S0 es k with|some lab=>Qm S' d (((Sq _ r).take g.rk.cs.length).flatten.map (Eh lab)) K|none=>none
  |.vw k _=>match mV g.ps S0 es k with|some lab=>Hs S' d .one (((Sq _ r).take g.rk.cs.length).flatten.map (Eh lab)) K|none=>none
  |.ret cs=>Hs S' d (AEm (cs.map wC)) (((Sq _ r).take g.rk.cs.length).flatten.map KR) K
def AIX(d:Nat)(g:GF)(fs:List Nat)(es:List En)(S:St)(K:St->Option ρ):Option ρ:=
 match QG [] g.ps es with
 |true=>none|false=>match WT S fs g.ps es with|some (S1,a)=>bd (g.d a) λr=>post d g es S S1 r K|none=>none
def tx(es:List En):Option (List Cap):=
 match es with
 | []=>some []|⟨.one,[l]⟩::es=>match l.AY8,tx es with|some c,some cs=>some (c::cs)|_,_=>none
 |_=>none
def St.Qj(S:St)(x:YO):Option (CL×List (Int×Int)):=
 match S.one x with
 |some (.al r none)=>match S.at r with|some (.ow (.mp ks))=>some (r,ks)|_=>none
 |_=>none
def ev(o:YOp R)(S:St)(K:St->Option ρ):Option ρ:=
 match o with
 |.mv d x=>match S.rd x with|some e=>Hs S d e.sh e.cs K|none=>none
 |.as d x=>match S.rd x with
  |some e=>match Lx S e.cs with|some (S',cs)=>Hs S' d e.sh cs K|none=>none
  |none=>none
 |.pick d c a b=>match S.sc c,S.rd a,S.rd b with|some (.bool t),some ea,some eb=>br t (Hs S d ea.sh ea.cs K) (Hs S d eb.sh eb.cs K)|_,_,_=>none
 |.alloc d zs=>Qm S d (zs.map .t) K|.box d x=>match S.rd x with
  |some e=>match uI S x e.cs with
   |some (S1,cs)=>if IU cs=true\/Gn e.sh e.cs.length=false then none else
    Qm S1 d (Eo (λl=>FO d l||GA d l) cs) K
   |none=>none
  |none=>none
 |.build d zs parts=>match M7 S (zs.map .t) parts with|some ls=>Hs S d .agg ls K|none=>none
 |.CC d n c parts=>match AFH c with
  |some z=>if n*c.size<=16777216 then match (if ADm 0 n parts=true then bsL c n S parts else bsK c n S (List.replicate n z) parts) with
   |some (S',xs)=>Hs S' d .one [.ow (.sl c xs)] K|none=>none
   else none
  |none=>none
 |.ld d n x=>match S.one x with|some p=>S.load (Dn n) p λls=>Hs S d (shN n) ls K|none=>none
 |.st n x v=>match S.one x,S.rd v with|some p,some e=>if e.cs.length=n % 1048576/\Gn e.sh (n % 1048576)=true then S.SJ n p e.cs K else none|_,_=>none
 |.chk d x=>match S.one x with|some p=>if SZ p=true then Hs S d .one [p] K else none|none=>none
 |.bin d c op x y=>match S.rd x,S.rd y with
  |some ex,some ey=>S.bin (match y with|.k _=>true|_=>false) c op ex ey λt=>Hs S d .one [.t t] K
  |_,_=>none
 |.un d op x=>match S.sc x with|some a=>unU op a λt=>Hs S d .one [.t t] K|none=>none
 |.cvI d k x=>match S.nat x with|some n=>Hs S d .one [.t (mkInt k n)] K|none=>none
 |.Nf d x=>match S.sc x with|some (.str s)=>Hs S d .one [.ow (.sl .u s)] K|_=>none
 |.Pk d x=>match S.one x with
  |some l=>match S.elems l with
   |some w=>match Rw.as .u w with|some bs=>Hs S d .one [.t (.str bs)] K|none=>none
   |none=>none
  |none=>none
 |.No d n caps=>match S.rds caps with
  |some es=>match tx es with|some cs=>Hs S d .one [.fn n cs] K|none=>none
  |none=>none
 |.Sg d c n=>match S.nat n with
  |some n=>match AFH c with|some z=>gd (0<=n/\n<=(lim:Int)) (Hs S d .one [.ow (.sl c (List.replicate n.toNat z))] K)|none=>none
  |none=>none
 |.WK d x lo hi=>match S.sc x with|some (.str s)=>range S s.length lo hi λa b=>Hs S d .one [.t (.str (part lo hi s a b))] K|_=>none
 |.sub d c x lo hi=>match S.one x with
  |some l=>if S.wide c l=true then match l with
   |.al r sub=>match S.elems l with
    |some w=>match Rw.as c w with
     |some xs=>range S xs.length lo hi λa b=>Hs S d .one [.al r (some (match sub with|none=>(a,b-a)|some (lo0,_)=>(lo0+a,b-a)))] K
     |none=>none
    |none=>none
   |.vw s c' xs=>range S xs.length lo hi λa b=>Hs S d .one [.vw s.up c' (part lo hi xs a b)] K|.t .nil=>range S 0 lo hi λ_ _=>Hs S d .one [.t .nil] K|_=>none
   else none
  |none=>none
 |.fa d off x=>match S.one x with
  |some p=>match NM off p with|some q=>Hs S d .one [q] K|none=>none
  |none=>none
 |.fld d off n x=>match S.rd x with|some ⟨.agg,cs⟩=>if off+Dn n<=cs.length then Hs S d (shN n) ((cs.drop off).take (Dn n)) K else none|_=>none
 |.ia d c x i=>match S.one x,S.nat i with
  |some l,some n=>if S.wide c l=true then match l with
   |.al r sub=>match S.elems l with
    |some (.of _ xs)=>bd (at? xs n) λ_=>Hs S d .one [.ep r (match sub with|none=>n|some (lo,_)=>(lo:Int)+n) 0] K
    |_=>match sub with
     |none=>match S.at r with|some (.owh _ xs _)=>bd (at? xs n) λ_=>Hs S d .one [.ep r n 0] K|_=>none
     |_=>none
   |.vw s c' xs=>bd (at? xs n) λx=>Hs S d .one [.vp s.up (cells c' x)] K|_=>none
   else none
  |_,_=>none
 |.ix d x i=>match S.sc x,S.nat i with|some (.str s),some n=>bd (at? s n) λx=>Hs S d .one [.t (.u8 x)] K|_,_=>none
 |.ext d x i=>match x with
  |.tmp s=>match get S.tm s with
   |some ⟨.tup ns,cs,_⟩=>match ns[i]? with
    |some n=>
     let o:=U3 (ns.take i)
     if o+Dn n<=cs.length then match Lx S (((Sk s 0 cs).drop o).take (Dn n)) with|some (S',ls)=>Hs S' d (shN n) ls K|none=>none
     else none
    |none=>none
   |_=>none
  |_=>none
 |.lens d x=>match S.sc x with|some (.str s)=>Hs S d .one [.t (.int .i64 s.length)] K|_=>none
 |.len d x=>match S.one x with
  |some l=>match S.elems l with|some (.of _ xs)=>Hs S d .one [.t (.int .i64 xs.length)] K|some .nl=>Hs S d .one [.t (.int .i64 0)] K|none=>none
  |none=>none
 |.app d c fl x y=>match S.one x,S.one y with
  |some lx,some ly=>match P5 c fl S ly with
   |some (S1,ys)=>match SU c S1 lx with
    |some (S2,b,n,e)=>gdo e (gd (n+ys.length<=lim) (match AWb c b ys with|some u=>Hs S2 d .one [.ow u] K|none=>none))
    |none=>none
   |none=>none
  |_,_=>none
 |.Sl d c x n=>match S.one x,S.nat n,AFH c with
  |some lx,some k,some z=>gd (0<=k/\k<=(lim:Int)) (match SU c S lx with
   |some (S2,b,n,e)=>gdo e (gd (n+k.toNat<=lim) (match AWb c b (List.replicate k.toNat z) with|some u=>Hs S2 d .one [.ow u] K|none=>none))
   |none=>none)
  |_,_,_=>none
 |.cpy d c x y=>match S.one x,S.one y with
  |some (.al r none),some ly=>match S.at r,S.elems ly with
   |some (.ow (.sl c' xs)),some w=>match Rw.as c w,Rw.as c (.of c' xs) with
    |some ys,some xs=>if S.wide c ly=true/\VD c=true then
     gd (xs.isEmpty=false) (Hs ((S.Bi r (.ow (.sl c (ys.take xs.length++xs.drop ys.length)))).kill (Fo r)) d .one [.t (.int .i64 (min ys.length xs.length:Nat))] K)
     else none
    |_,_=>none
   |_,_=>none
  |_,_=>none
 |.mm d isMax x y=>match S.sc x,S.sc y with|some (.int k a),some (.int k' b)=>if k'=k then Hs S d .one [.t (.int k (if isMax=true then (if b>a then b else a) else (if b<a then b else a)))] K else none|_,_=>none
 |.mmk d=>Hs S d .one [.ow (.mp [])] K|.U1 d x k=>match S.Qj x,S.sc k with|some (_,ks),some (.int .i64 n)=>Hs S d .one [.t (.int .i64 (NI ks n))] K|_,_=>none
 |.To x k v=>match S.Qj x,S.sc k,S.sc v with|some (r,ks),some (.int .i64 n),some (.int .i64 m)=>K ((S.Bi r (.ow (.mp (KE ks n m)))).kill (Fo r))|_,_,_=>none
 |.U2 d x=>match S.Qj x with|some (_,ks)=>Hs S d .one [.t (.int .i64 ks.length)] K|none=>none
 |.bad _=>none|.drop ds=>K (S.Ir ds)|.Qn ns=>K (S.Rv ns)|.call d g fs _ args=>match S.rds args with|some es=>AIX d g fs es S K|none=>none
 |.ED d x ms args=>match S.one x,S.rds args with
  |some (.fn n caps),some es=>match R[n]? with|some g=>if g.ps.map PK.md=ms then AIX d g [] (es++caps.map λl=>⟨.one,[l.leaf]⟩) S K else none|none=>none
  |_,_=>none
def YOp.lK:YOp R->Option Nat|.mv d _=>some d|.as d _=>some d|.pick d _ _ _=>some d|.alloc d _=>some d|.box d _=>some d|.build d _ _=>some d|.CC d _ _ _=>some d|.ld d _ _=>some d|.chk d _=>some d|.bin d _ _ _ _=>some d|.un d _ _=>some d|.cvI d _ _=>some d|.Nf d _=>some d|.Pk d _=>some d|.No d _ _=>some d|.Sg d _ _=>some d|.sub d _ _ _ _=>some d|.WK d _ _ _=>some d|.fa d _ _=>some d|.fld d _ _ _=>some d|.ia d _ _ _=>some d|.ix d _ _=>some d|.ext d _ _=>some d|.call d _ _ _ _=>some d|.ED d _ _ _=>some d|.len d _=>some d|.lens d _=>some d|.app d _ _ _ _=>some d|.Sl d _ _ _=>some d|.cpy d _ _ _=>some d|.mm d _ _ _=>some d|.mmk d=>some d|.U1 d _ _=>some d|.U2 d _=>some d|.To _ _ _=>none|.bad d=>d|.st _ _ _=>none|.drop _=>none|.Qn _=>none
def YOp.simple:YOp R->Bool|.mv _ _=>true|.as _ _=>true|.pick _ _ _ _=>true|.ld _ _ _=>true|.chk _ _=>true|.bin _ _ _ _ _=>true|.un _ _ _=>true|.cvI _ _ _=>true|.Nf _ _=>true|.Pk _ _=>true|.Sg _ _ _=>true|.sub _ _ _ _ _=>true|.WK _ _ _ _=>true|.fa _ _ _=>true|.fld _ _ _ _=>true|.ia _ _ _ _=>true|.ix _ _ _=>true|.len _ _=>true|.lens _ _=>true|.mm _ _ _ _=>true|.mmk _=>true|.U1 _ _ _=>true|.U2 _ _=>true|.call _ g _ _ _=>!(g.ps.any PK.writes)|_=>false
def Mz(o:YOp R)(S:St)(K:St->Option ρ):Option ρ:=match o.lK with|some d=>Hs S d .one [.und] K|none=>K S
def reE(s:Nat)(e:Ent):List (Nat×Ent)->List (Nat×Ent)
 | []=>[]|(k,x)::r=>match Nat.beq k s with|true=>(k,e)::r|false=>(k,x)::reE s e r
def St.lit(S:St)(s:Nat)(b:Bool):St:=⟨reE s ⟨.one,[.t (.bool b)],S.nv⟩ S.tm,S.bx,S.pin,S.nv+1⟩
def nD(w:Bool)(o:YOp R)(S:St)(f:Option ρ)(K:St->Option ρ):Option ρ:=match w with|true=>f|false=>Mz o S K
def evg(g:Option (Nat×Bool))(o:YOp R)(S:St)(K:St->Option ρ):Option ρ:=
 match g with
 |none=>ev o S K|some (s,w)=>match get S.tm s with
  |some ⟨.one,[.t (.bool b)],_⟩=>
   br b (nD w o (S.lit s true) (ev o (S.lit s true) K) K) (nD (!w) o (S.lit s false) (ev o (S.lit s false) K) K)
  |some ⟨.one,[.und],_⟩=>Mz o S K|_=>none
def evs:List (Option (Nat×Bool)×YOp R)->St->(St->Option ρ)->Option ρ
 | [],S,K=>K S|(g,o)::r,S,K=>match o.simple with|true=>evg g o S λS'=>evs r S' K|false=>evg g o S λS'=>S'.GY λS'=>evs r S' K
def YOp.wr:YOp R->Option YO|.app _ _ _ x _=>some x|.Sl _ _ x _=>some x|.cpy _ _ x _=>some x|.To x _ _=>some x|_=>none
def Kg(l:AS):List PK->List En->Bool|k::ks,e::es=>(!PK.writes k||e.cs.all λl'=>!SA l' l)&&Kg l ks es|_,_=>true
def St.Oa(S:St):AS->Bool
 |.bp id _=>(get S.bx id).isSome|.ep _ _ _=>true|.vp _ cs=>!cs.isEmpty|.al r _=>match S.at r with|some (.ow x)=>!aN x|_=>false
 |.vw (.own _ _) _ _=>true|.t .nil=>true|_=>false
def VP(o:YOp R)(S:St)(l:AS):Bool:=
 S.Oa l&&match o with
  |.st _ x _=>match S.one x with|some (.bp id _)=>!mem id (names l)|some (.ep r _ _)=>!isR l.B8 r|_=>false
  |.call _ g _ _ args=>match S.rds args with|some es=>Kg l g.ps es|none=>false
  |.ED _ x ms args=>match S.one x,S.rds args with
   |some (.fn n caps),some es=>match R[n]? with|some g=>if g.ps.map PK.md=ms then Kg l g.ps (es++caps.map λl=>⟨.one,[l.leaf]⟩) else false|none=>false
   |_,_=>false
  |o=>match o.wr with
   |some y=>match S.one y with
    |some lt=>l.B8.isNone||!(match l.B8 with|some r=>isR lt.B8 r|none=>lt.B8.isNone)
    |none=>false
   |none=>true
def KT(o:YOp R)(S:St):List Nat->Bool
 | []=>true|s::ss=>(match S.one (.tmp s) with|some l=>VP o S l|none=>false)&&KT o S ss
end
abbrev ifB{γ:Type}(b:Bool)(x:Option γ):Option γ:=match b with|true=>x|false=>none
theorem AZO{γ}{b}{x:Option γ}:ifB b x=if b=true then x else none:=by cases b<;>rfl
def cO{α:Type}(k:Nat):List (Nat×α)->Bool
 | []=>false|(j,_)::r=>match Nat.beq j k with|true=>true|false=>cO k r
def my{α:Type}:List (Nat×α)->Bool| []=>true|(k,_)::r=>(!cO k r)&&my r
def AMR:List (Option Nat)->List (Option Nat)->Bool| [],[]=>true|none::r,none::r'=>AMR r r'|some a::r,some b::r'=>Nat.beq a b&&AMR r r'|_,_=>false
def AZJ:Sh->Sh->Bool|.one,.one=>true|.agg,.agg=>true|.tup a,.tup b=>AMR a b|.ptr a,.ptr b=>Nat.beq a b|.vw a,.vw b=>Nat.beq a b|_,_=>false
def AKo:Option (Nat×Nat)->Option (Nat×Nat)->Bool|none,none=>true|some (a,b),some (a',b')=>Nat.beq a a'&&Nat.beq b b'|_,_=>false
def AKn:Src->Src->Bool|.old a,.old b=>Nat.beq a b|.own r s,.own r' s'=>CL.is r r'&&AKo s s'|_,_=>false
def AXF:List (Nat×Nat)->List (Nat×Nat)->Bool| [],[]=>true|(a,b)::r,(a',b')::r'=>Nat.beq a a'&&Nat.beq b b'&&AXF r r'|_,_=>false
section
variable{ρ:Type}
def agU:U->U->Option ρ->Option ρ|.top,.top,X=>X|.int k n,.int k' n',X=>if k'=k then eqv n n' X else none|.u8 a,.u8 b,X=>eqv a b X|.bool a,.bool b,X=>eqv a b X|.str a,.str b,X=>eqv a b X|.nil,.nil,X=>X|.np,.np,X=>X|.mp a,.mp b,X=>eqv a b X|.sl c xs,.sl c' ys,X=>if h:c'=c then eqv xs (h▸ys) X else none|_,_,_=>none
def AYs:List U->List U->Option ρ->Option ρ| [],[],X=>X|a::r,b::r',X=>agU a b (AYs r r' X)|_,_,_=>none
def AYq:AS->AS->Option ρ->Option ρ|.t x,.t y,X=>agU x y X|.und,.und,X=>X|.ow x,.ow y,X=>agU x y X|.owh c xs hs,.owh c' ys hs',X=>ifB (AXF hs hs') (if h:c'=c then eqv xs (h▸ys) X else none)|.al r s,.al r' s',X=>ifB (CL.is r r'&&AKo s s') X|.ep r i j,.ep r' i' j',X=>ifB (CL.is r r'&&Nat.beq j j') (eqv i i' X)|.vw s c xs,.vw s' c' ys,X=>ifB (AKn s s') (if h:c'=c then eqv xs (h▸ys) X else none)|.vp s cs,.vp s' cs',X=>ifB (AKn s s') (AYs cs cs' X)|.bp a o,.bp a' o',X=>ifB (Nat.beq a a'&&Nat.beq o o') X|_,_,_=>none
def AWY:List AS->List AS->Option ρ->Option ρ| [],[],X=>X|a::r,b::r',X=>AYq a b (AWY r r' X)|_,_,_=>none
def agE(v:Nat):List (Nat×Ent)->List (Nat×Ent)->Option ρ->Option ρ
 | [],[],X=>X|(k,e)::r,(k',e')::r',X=>match Nat.beq k k' with
  |true=>match (Nat.blt e.ver v&&Nat.blt e'.ver v) with|true=>agE v r r' X|false=>ifB (AZJ e.sh e'.sh) (AWY e.cs e'.cs (agE v r r' X))
  |false=>none
 |_,_,_=>none
def agB(v:Nat):List (Nat×Bx)->List (Nat×Bx)->Option ρ->Option ρ
 | [],[],X=>X|(k,e)::r,(k',e')::r',X=>match Nat.beq k k' with
  |true=>match (Nat.blt e.ver v&&Nat.blt e'.ver v) with|true=>agB v r r' X|false=>AWY e.cs e'.cs (agB v r r' X)
  |false=>none
 |_,_,_=>none
def agS(v:Nat)(A B:St)(X:Option ρ):Option ρ:=ifB (my A.tm&&my B.tm&&my A.bx&&my B.bx) (agE v A.tm B.tm (agB v A.bx B.bx X))
end
inductive B4 where
 |nil|op(i:Nat)(g:Option (Nat×Bool))(sf:List Nat)(o:YOp R)(rest:B4)|dr(ds:List Nat)(rest:B4)|nl(ns:List (CL×C))(rest:B4)|both(n:Nat)(a b:B4)
section
variable {R} {ρ:Type}
def evr:B4 R->St->(St->Option ρ)->Option ρ
 |.nil,S,K=>K S|.op _ g sf p rest,S,K=>match g with
  |none=>ifB (KT p S sf) (ev p S λS'=>S'.GY λS'=>evr rest S' K)|some (s,w)=>match get S.tm s with
   |some ⟨.one,[.t (.bool b)],_⟩=>
    br b (nD w p (S.lit s true) (ifB (KT p (S.lit s true) sf) (ev p (S.lit s true) λS'=>S'.GY λS'=>evr rest S' K)) λS'=>S'.GY λS'=>evr rest S' K)
     (nD (!w) p (S.lit s false) (ifB (KT p (S.lit s false) sf) (ev p (S.lit s false) λS'=>S'.GY λS'=>evr rest S' K)) λS'=>S'.GY λS'=>evr rest S' K)
   |some ⟨.one,[.und],_⟩=>Mz p S λS'=>S'.GY λS'=>evr rest S' K|_=>none
 |.dr ds rest,S,K=>evr rest (S.Ir ds) K|.nl ns rest,S,K=>evr rest (S.Rv ns) K|.both n a b,S,K=>match n with|0=>evr a S λA=>evr b S λB=>agS S.nv A B (K A)|_+1=>evr a S λA=>alt (λX=>evr b S λB=>agS S.nv A B X) (K A)
end
inductive AL where
 |val(c:C)(s:Option Src)|num(k:IntKind)|al(r:CL)
def AL.D:AL->Type|.val c _=>c.D|.num _=>Int|.al _=>Unit
def AL.w:AL->Nat|.val c _=>c.size|.num _=>1|.al _=>1
def TA:List AL->Type| []=>Unit| [a]=>a.D|a::a'::as=>a.D×TA (a'::as)
def ATq(s:Option Src)(x:U):AS:=match s with|none=>KR x|some q=>LN q x
def AL.leaf:(a:AL)->a.D->List AS|.val c s,x=>(cells c x).map (ATq s)|.num k,z=>[.t (.int k z)]|.al r,_=>[.al r none]
def ATr(s:Option Src):AS->Option U
 |.t (.sl _ _)=>none|.t .nil=>none|.t (.mp _)=>none|.t x=>some x|.ow (.sl c xs)=>match s with|none=>some (.sl c xs)|some _=>none
 |.ow (.mp ks)=>match s with|none=>some (.mp ks)|some _=>none
 |.vw q' c xs=>match s with|none=>none|some q=>if q'=q then some (.sl c xs) else none
 |_=>none
def xp(s:Option Src):List AS->Option (List U)
 | []=>some []|l::ls=>match ATr s l,xp s ls with|some x,some xs=>some (x::xs)|_,_=>none
def AL.un:(a:AL)->List AS->Option a.D
 |.val c s,ls=>match xp s ls with|some us=>ofC c us|none=>none
 |.num k,ls=>match ls with | [.t (.int k' z)]=>if k'=k then some z else none|_=>none
 |.al r,ls=>match ls with | [.al r' none]=>if r'=r then some () else none|_=>none
def Oh:(as:List AL)->TA as->List AS| [],_=>[]| [a],x=>a.leaf x|a::a'::as,x=>a.leaf x.1++Oh (a'::as) x.2
def AYB:(as:List AL)->List AS->Option (TA as)
 | [],ls=>match ls with | []=>some ()|_=>none
 | [a],ls=>a.un ls|a::a'::as,ls=>match a.un (ls.take a.w),AYB (a'::as) (ls.drop a.w) with|some x,some y=>some (x,y)|_,_=>none
abbrev Cut:=List (Bool×Nat×Sh×List AL)
def wid:List AL->Nat| []=>0|a::as=>a.w+wid as
def Cut.as(c:Cut):List AL:=(c.map λv=>v.2.2.2).flatten
def seg:Cut->List AS->List (Bool×Nat×Sh×List AS)| [],_=>[]|(b,d,sh,as)::vs,ls=>(b,d,sh,ls.take (wid as))::seg vs (ls.drop (wid as))
def look(b:Bool)(k:Nat):List (Bool×Nat×Sh×List AS)->Option (Sh×List AS)
 | []=>none|(b',d,sh,ls)::r=>match (b'==b&&Nat.beq d k) with|true=>some (sh,ls)|false=>look b k r
def nU(q:List (Bool×Nat×Sh×List AS))(a:List (Nat×Ent))(v:Nat):List (Nat×Ent)->List (Nat×Ent)
 | []=>[]|(k,e)::r=>(k,match look false k q with|some (sh,ls)=>⟨sh,ls,v⟩|none=>match get a k with|some e'=>e'|none=>e)::nU q a v r
def nS(q:List (Bool×Nat×Sh×List AS))(a:List (Nat×Bx))(v:Nat):List (Nat×Bx)->List (Nat×Bx)
 | []=>[]|(k,e)::r=>(k,match look true k q with|some (_,ls)=>⟨ls,v⟩|none=>match get a k with|some e'=>e'|none=>e)::nS q a v r
def Cut.st(c:Cut)(S S':St)(x:TA c.as):St:=⟨nU (seg c (Oh c.as x)) S.tm S.nv S'.tm,nS (seg c (Oh c.as x)) S.bx S.nv S'.bx,S.pin,S.nv+1⟩
def O3(b:Bool)(k:Nat):Cut->Bool
 | []=>false|(b',d,_)::r=>match (b'==b&&Nat.beq d k) with|true=>true|false=>O3 b k r
def ALh(c:Cut)(a:List (Nat×Ent)):List (Nat×Ent)->Bool
 | []=>true|(k,e)::r=>(match O3 false k c with|true=>true|false=>match get a k with|some e'=>Nat.beq e.ver e'.ver|none=>false)&&(!cO k r)&&ALh c a r
def ALg(c:Cut)(a:List (Nat×Bx)):List (Nat×Bx)->Bool
 | []=>true|(k,e)::r=>(match O3 true k c with|true=>true|false=>match get a k with|some e'=>Nat.beq e.ver e'.ver|none=>false)&&(!cO k r)&&ALg c a r
def My{α:Type}:List (Nat×α)->List (Nat×α)->Bool| [],[]=>true|(k,_)::r,(k',_)::r'=>Nat.beq k k'&&My r r'|_,_=>false
def Ra(S:St):Cut->Option (List AS)
 | []=>some []|(false,d,sh,as)::vs=>match get S.tm d,Ra S vs with|some e,some ls=>if AOQ e.sh sh=true/\e.cs.length=wid as then some (e.cs++ls) else none|_,_=>none
 |(true,d,_,as)::vs=>match get S.bx d,Ra S vs with|some e,some ls=>if e.cs.length=wid as then some (e.cs++ls) else none|_,_=>none
def wfE(v:Nat):List (Nat×Ent)->Bool| []=>true|(_,e)::r=>Nat.blt e.ver v&&wfE v r
def wfB(v:Nat):List (Nat×Bx)->Bool| []=>true|(_,e)::r=>Nat.blt e.ver v&&wfB v r
def Cut.fit(c:Cut)(S S':St):Option (TA c.as):=
 if wfE S.nv S.tm=true/\wfB S.nv S.bx=true/\ALh c S.tm S'.tm=true/\ALg c S.bx S'.bx=true
 then match Ra S' c with|some ls=>AYB c.as ls|none=>none
 else none
inductive HG where
 |skip|region(ops:List (Option (Nat×Bool)×YOp R))(FD:List Nat)|Vi(r:B4 R)(FD:List Nat)|seq(a b:HG)|join(c:Cut)(a b:HG)|cond(c:Nat)(kt ke:List Nat)(t e:HG)|block(id:Nat)(b:HG)|loop(c:Cut)(b:HG)|exit(id:Nat)|ret|scope(b:HG)|or(a b:HG)|dead|AUN(c:Cut)(b:HG)|Ty(a b:List (Option (Nat×Bool)×YOp R))(FD:List Nat)(d p c e:Nat)
end
section
variable{R:List GF}{ρ:Type}
def AVw{γ:Type}:List (Nat×Ent)->(List (Nat×Ent)->γ)->γ| [],K=>K []|(k,_)::r,K=>AVw r λr=>K ((k,⟨.one,[],0⟩)::r)
def AVv{γ:Type}:List (Nat×Bx)->(List (Nat×Bx)->γ)->γ| [],K=>K []|(k,_)::r,K=>AVv r λr=>K ((k,⟨[],0⟩)::r)
def St.see(S:St)(d p c e:Nat)(K:St->Option ρ):Option ρ:=match S.one (.tmp p),S.at (.tmp d 0) with
 |some (.bp b 0),some (.ow (.sl q xs))=>match S.at (.cell b c),Nat.beq q.size e with
  |some (.t .top),true=>bd xs.getLast? λx=>match (cells q x)[c]? with|some (.sl q' ys)=>K (S.Bi (.cell b c) (.vw (.own (.tmp d 0) none) q' ys))|_=>none
  |_,_=>none
 |_,_=>none
def IN:HG R->St->(Ex->St->Option ρ)->Option ρ
 |.skip,S,K=>K .n S|.region ops FD,S,K=>evs ops S λS'=>(S'.fI FD).GY λS'=>K .n S'|.Vi r FD,S,K=>evr r S λS'=>(S'.fI FD).GY λS'=>K .n S'|.seq a b,S,K=>IN a S λe S'=>match e with|Ex.n=>IN b S' K|.x i=>K (.x i) S'|.r=>K .r S'
 |.join c a b,S,K=>IN a S λe S'=>match e with
  |.n=>match c.fit S S' with|some x=>AVw S'.tm λtm=>AVv S'.bx λbx=>jn (λx=>(c.st S ⟨tm,bx,[],0⟩ x).GY λS=>IN b S K) x|none=>none
  |.x i=>K (.x i) S'|.r=>K .r S'
 |.cond c kt ke t e,S,K=>match S.sc (.tmp c) with|some (.bool b)=>br b ((S.fI kt).GY λS=>IN t S K) ((S.fI ke).GY λS=>IN e S K)|_=>none
 |.block id b,S,K=>IN b S λe S'=>match e with|.n=>K .n S'|.x i=>if i=id then K .n S' else K (.x i) S'|.r=>K .r S'
 |.loop c b,S,K=>match c.fit S S with
  |some x=>A9 (λL x=>(c.st S S x).GY λS1=>IN b S1 λe S'=>match e with
   |.n=>if My S.tm S'.tm=true/\My S.bx S'.bx=true then (match c.fit S S' with|some y=>L y|none=>none) else none
   |.x i=>K (.x i) S'|.r=>K .r S') big x
  |none=>none
 |.exit id,S,K=>K (.x id) S|.ret,S,K=>K .r S|.scope b,S,K=>IN b S K|.or a b,S,K=>orX (IN a S K) (IN b S K)|.dead,_,_=>none|.AUN c b,S,K=>IN b S λe S0=>match e with
  |.n=>match c.fit S0 S0 with
   |some x=>A9 (λL x=>(c.st S0 S0 x).GY λS1=>IN b S1 λe S'=>match e with
    |.n=>if My S0.tm S'.tm=true/\My S0.bx S'.bx=true then (match c.fit S0 S' with|some y=>L y|none=>none) else none
    |.x i=>K (.x i) S'|.r=>K .r S') big x
   |none=>none
  |.x i=>K (.x i) S0|.r=>K .r S0
 |.Ty a b FD d p c e,S,K=>evs a S λS=>match S.one (.tmp p) with
  |some (.bp id 0)=>match get S.bx id with|some _=>evs b S λS'=>S'.see d p c e λS'=>(S'.fI FD).GY λS'=>K .n S'|none=>none
  |_=>none
def Pj(i:Nat):(l:List (Bool×C))->tk l->List Cap
 | [],_=>[]|(false,c)::r,x=>(match cells c x.1 with | [.sl c' xs]=>.vw i c' xs | [u]=>.t u|_=>.t .top)::Pj i r x.2
 |(true,c)::r,x=>.vp i (cells c x.1)::Pj i r x.2
def initK:Nat->List Nat->(ks:List PK)->A ks->St->St
 |_,_,[],_,S=>S|i,fs,.v c::ks,a,S=>initK (i+1) fs ks a.2 (S.Kl i (shC c) ((cells c a.1).map (Eh i)))|i,fs,.p c::ks,a,S=>initK (i+1) fs ks a.2 (S.Kl i .one [.vp (.old i) (cells c a.1)])|i,fs,.b c::ks,a,S=>initK (i+1) fs ks a.2 (let S1:=(S.Kl i .one [.bp i 0]).O7 i ((cells c a.1).map (Eh i));⟨S1.tm,S1.bx,i::S1.pin,S1.nv⟩)
 |i,fs,.o c::ks,a,S=>initK (i+1) fs ks a.2 (S.Kl i (shC c) ((cells c a.1).map KR))|i,fs,.m c::ks,a,S=>initK (i+1) fs ks a.2 (let S1:=S.Kl i (shC c) ((cells c a.1).map KR);⟨S1.tm,S1.bx,i::S1.pin,S1.nv⟩)
 |i,fs,.f _ l::ks,a,S=>initK (i+1) fs.tail ks a.2 (S.Kl i .one [.fn (fs.headD 0) (Pj i l a.1)])
def Mx{ρ:Type}:List IP->St->(List (Option Nat)->List AS->Option ρ)->Option ρ
 | [],_,K=>K [] []|.tmp t::rs,S,K=>match S.rd (.tmp t) with
  |some e=>if Gn e.sh e.cs.length=true then Mx rs S λns ls=>K ((match e.sh with|.one=>none|_=>some e.cs.length)::ns) (e.cs++ls) else none
  |none=>none
 |.cell t n::rs,S,K=>match S.one (.tmp t) with|some (.bp id o)=>S.load (Dn n) (.bp id o) λls'=>Mx rs S λns ls=>K (n::ns) (ls'++ls)|_=>none
 |.bx _::_,_,_=>none|.vw _ _::_,_,_=>none|.un _ _::_,_,_=>none
def Ok:List AS->Bool
 | []=>true|l::ls=>(match l with|.t x=>!Sa x|.vw (.old _) _ _=>true|_=>false)&&Ok ls
def dP(rk:RK)(rs:List IP)(S:St)(K:St->List U->Option ρ):Option ρ:=
 match rk,rs with
 |.ptr k _,[.bx t]=>match S.one (.tmp t) with
  |some (.bp id 0)=>match get S.bx id with
   |some ls=>if mem id S.pin=true then none else if Dh ls.cs=k then match F6 k ls.cs with|some us=>K S us|none=>none else none
   |none=>none
  |_=>none
 |.vw k _,[.vw t k']=>if k'=k then match S.one (.tmp t) with
  |some (.vw (.old k'') c xs)=>if k''=k then K S [.sl c xs] else none|some (.al r sub)=>match S.at r with|some (.ow x)=>K (S.out r) [AHz sub x]|_=>none
  |_=>none
  else none
 |.ret (.un n::c::cs),.un t n'::r::rs=>if n'=n then match S.one (.tmp t) with
  |some (.bp id o)=>S.load n (.bp id o) λls'=>if Ok ls'=true then Mx (r::rs) S λns ls=>if ns=(c::cs).map wC then match D1 S ls with
   |some (S',us)=>K S' (List.replicate n .un++us)|none=>none
   else none
   else none
  |_=>none
  else none
 |.ret cs,rs=>Mx rs S λns ls=>if ns=cs.map wC then match D1 S ls with
  |some (S',us)=>K S' us|none=>none
  else none
 |_,_=>none
def owT:AS->Option U|.ow x=>some x|.t x=>if Sa x=true then none else some x|_=>none
def dO:List AS->Option (List U)
 | []=>some []|l::ls=>match owT l,dO ls with|some x,some xs=>some (x::xs)|_,_=>none
def Fc:Nat->List PK->St->Option (List U)
 |_,[],_=>some []|i,.b c::ks,S=>match get S.bx i,Fc (i+1) ks S with
  |some ls,some os=>if mem i S.pin=true/\ls.cs.length=c.size then match F6 i ls.cs with|some us=>some (us++os)|none=>none else none
  |_,_=>none
 |i,.m c::ks,S=>match get S.tm i,Fc (i+1) ks S with
  |some e,some os=>if mem i S.pin=true/\Gn e.sh e.cs.length=true/\e.cs.length=c.size then match dO e.cs with|some us=>some (us++os)|none=>none else none
  |_,_=>none
 |i,_::ks,S=>Fc (i+1) ks S
def VQ:List C->Nat| []=>0|c::cs=>c.size+VQ cs
def fin(ks:List PK)(rk:RK)(rs:List IP)(S:St):Option (Tu (rk.cs++MN ks)):=
 dP rk rs S λS' us=>match Fc 0 ks S' with|some os=>if us.length=VQ rk.cs then ofT (rk.cs++MN ks) (us++os) else none|none=>none
end
structure YF where
 R:List GF
 ps:List PK
 fs:List Nat
 rk:RK
 rs:List IP
 body:HG R
def YF.run(f:YF)(a:A f.ps):Option (Tu (f.rk.cs++MN f.ps)):=
 (initK 0 f.fs f.ps a ⟨[],[],[],0⟩).GY λS=>IN f.body S λe S=>match e with|.x _=>none|.n=>fin f.ps f.rk f.rs S|.r=>fin f.ps f.rk f.rs S
end Y
theorem FY:∀(c:C) (x:c.D),enc c x=(cells c x).map U.fg
 |.i,x=>rfl|.u,x=>rfl|.b,x=>rfl|.s,x=>rfl|.m,x=>rfl|.ki _,x=>rfl|.z,x=>rfl|.l c,xs=>rfl|.un n,x=>by simp only[enc,cells,Ff];rfl|.st n,x=>by
  match n,x with
  |0,x=>rfl|1,x=>rfl|2,x=>rfl|3,x=>rfl|4,x=>rfl|5,x=>rfl|6,x=>rfl|7,x=>rfl|8,x=>rfl|9,x=>rfl|10,x=>rfl|11,x=>rfl|12,x=>rfl|13,x=>rfl|14,x=>rfl|15,x=>rfl|16,x=>rfl|17,x=>rfl|_+18,x=>rfl
theorem AWH{u}{n}(h:toI u=some n):u=.int .i64 n:=by
 cases u<;>simp[toI]at h
 grind
theorem AZ8{u}{n}(h:toU u=some n):u=.u8 n:=by cases u<;>simp[toU]at h;rw[h]
theorem ALo{u}{n}(h:AX9 u=some n):u=.bool n:=by cases u<;>simp[AX9]at h;rw[h]
theorem AWJ{u}{n}(h:toS u=some n):u=.str n:=by cases u<;>simp[toS]at h;rw[h]
theorem AZ7{k}{u}{n}(h:toN k u=some n):u=.int k n:=by
 cases u<;>simp[toN]at h
 grind
theorem AZ9{u}{n}(h:toZ u=some n):u=.nil:=by cases u<;>simp[toZ]at h;rfl
theorem AZ6{u:U}{n}(h:toM u=some n):u=.mp n:=by cases u<;>simp[toM]at h;rw[h]
theorem AWI{c}{u}{n}(h:toL c u=some n):u=.sl c n:=by
 cases u<;>simp[toL]at h
 grind
theorem bind_eq{β:Type}{f}{r:β}(h:o.bind f=some r):∃x,o=some x/\f x=some r:=ob h
theorem EE{α}{us}{K:Int->List U->Option α}{r}(h:gI us K=some r):∃a j,us=.int .i64 a::j/\K a j=some r:=by
 cases us with
 |nil=>cases h
 |cons u us=>obtain⟨a,q,h⟩:=bind_eq h;obtain rfl:=AWH q;exact⟨a,us,rfl,h⟩
theorem bw{α}{us}{K:List UInt8->List U->Option α}{r}(h:gS us K=some r):∃a j,us=.str a::j/\K a j=some r:=by
 cases us with
 |nil=>cases h
 |cons u us=>obtain⟨a,q,h⟩:=bind_eq h;obtain rfl:=AWJ q;exact⟨a,us,rfl,h⟩
theorem AZM{α}{us}{K:Bool->List U->Option α}{r}(h:gBo us K=some r):∃a j,us=.bool a::j/\K a j=some r:=by
 cases us with
 |nil=>cases h
 |cons u us=>obtain⟨a,q,h⟩:=bind_eq h;obtain rfl:=ALo q;exact⟨a,us,rfl,h⟩
theorem KO{α}{c}{us}{K:List c.D->List U->Option α}{r}(h:gL c us K=some r):∃a j,us=.sl c a::j/\K a j=some r:=by
 cases us with
 |nil=>cases h
 |cons u us=>obtain⟨a,y,q⟩:=bind_eq h;obtain rfl:=AWI y;exact⟨a,us,rfl,q⟩
theorem Lp{α}{us}{a r:α}(h:gE us a=some r):us=[]/\a=r:=by
 cases us with
 |nil=>exact⟨rfl,Option.some.inj h⟩|cons u us=>cases h
theorem AT8{us}{x}(h:AT7 us=some x):AYL x=us:=by
 grind[AT7,EE,Lp]
theorem AHG{us}{x}(h:yH us=some x):AIQ x=us:=by
 unfold yH at h;obtain⟨a0,B,rfl,j⟩:=KO h;obtain⟨q,E,rfl,y⟩:=EE j
 grind[EE,Lp]
theorem AHE{us}{x}(h:yF us=some x):AIO x=us:=by
 unfold yF at h;obtain⟨a0,G,rfl,j⟩:=EE h;obtain⟨y,H,rfl,q⟩:=EE j;obtain⟨B,I,rfl,E⟩:=EE q
 grind[EE,Lp]
theorem AD5{us}{x}(h:m7 us=some x):AAC x=us:=by
 grind[m7,EE,Lp]
theorem AHB{us}{x}(h:yC us=some x):AIL x=us:=by
 grind[yC,EE,Lp]
theorem AT6{us}{x}(h:AT5 us=some x):AYK x=us:=by
 grind[AT5,EE,Lp]
theorem AHI{us}{x}(h:yJ us=some x):AIS x=us:=by
 grind[yJ,KO,Lp]
theorem AHA{us}{x}(h:yB us=some x):AIK x=us:=by
 unfold yB at h
 grind[EE,KO,Lp]
theorem AHD{us}{x}(h:yE us=some x):AIN x=us:=by
 unfold yE at h;obtain⟨a0,Y,rfl,j⟩:=KO h;obtain⟨I,Z,rfl,q⟩:=EE j;obtain⟨J,u2,rfl,y⟩:=EE q;obtain⟨a3,u3,rfl,B⟩:=EE y;obtain⟨a4,u4,rfl,E⟩:=EE B;obtain⟨L,u5,rfl,G⟩:=EE E;obtain⟨O,u6,rfl,H⟩:=EE G;obtain⟨Q,u7,rfl,X⟩:=EE H
 grind[EE,KO,Lp]
theorem AMp{us}{x}(h:AG9 us=some x):APB x=us:=by
 grind[AG9,bw,EE,Lp]
theorem AHH{us}{x}(h:yI us=some x):AIR x=us:=by
 grind[yI,bw,EE,Lp]
theorem AD4{us}{x}(h:m0 us=some x):AAB x=us:=by
 unfold m0 at h;obtain⟨a0,u0,rfl,Q⟩:=KO h;obtain⟨a1,u1,rfl,X⟩:=EE Q;obtain⟨a2,u2,rfl,Z⟩:=EE X;obtain⟨a3,u3,rfl,h3⟩:=EE Z;obtain⟨a4,u4,rfl,h4⟩:=EE h3;obtain⟨a5,u5,rfl,h5⟩:=EE h4;obtain⟨a6,u6,rfl,h6⟩:=EE h5;obtain⟨a7,u7,rfl,h7⟩:=EE h6;obtain⟨a8,u8,rfl,h8⟩:=EE h7;obtain⟨a9,u9,rfl,h9⟩:=EE h8;obtain⟨G,u10,rfl,j⟩:=EE h9;obtain⟨H,u11,rfl,q⟩:=KO j;obtain⟨I,u12,rfl,y⟩:=KO q;obtain⟨J,u13,rfl,B⟩:=KO y;obtain⟨L,u14,rfl,E⟩:=KO B;obtain⟨O,u15,rfl,Y⟩:=bw E
 grind[EE,bw,KO,Lp]
theorem AHF{us}{x}(h:yG us=some x):AIP x=us:=by
 grind[yG,EE,KO,Lp]
theorem AHJ{us}{x}(h:yK us=some x):AIT x=us:=by
 unfold yK at h;obtain⟨a0,u0,rfl,h0⟩:=KO h;obtain⟨a1,u1,rfl,h1⟩:=EE h0;obtain⟨a2,u2,rfl,h2⟩:=EE h1;obtain⟨a3,u3,rfl,h3⟩:=EE h2;obtain⟨a4,u4,rfl,h4⟩:=EE h3;obtain⟨a5,u5,rfl,h5⟩:=EE h4;obtain⟨a6,u6,rfl,h6⟩:=EE h5;obtain⟨a7,u7,rfl,h7⟩:=EE h6;obtain⟨a8,u8,rfl,h8⟩:=EE h7;obtain⟨a9,u9,rfl,h9⟩:=EE h8;obtain⟨L,u10,rfl,j⟩:=EE h9;obtain⟨O,u11,rfl,q⟩:=KO j;obtain⟨Q,u12,rfl,y⟩:=KO q;obtain⟨X,u13,rfl,B⟩:=KO y;obtain⟨Y,u14,rfl,E⟩:=KO B;obtain⟨Z,u15,rfl,G⟩:=bw E;obtain⟨a16,u16,rfl,H⟩:=EE G;obtain⟨a17,u17,rfl,I⟩:=bw H;obtain⟨a18,u18,rfl,J⟩:=EE I;obtain⟨a19,u19,rfl,h19⟩:=bw J
 grind[EE,KO,Lp]
theorem AT4{us}{x}(h:AT3 us=some x):AYJ x=us:=by
 unfold AT3 at h;obtain⟨a0,B,rfl,j⟩:=EE h;obtain⟨q,E,rfl,y⟩:=EE j
 grind[EE,KO,Lp]
theorem AHC{us}{x}(h:yD us=some x):AIM x=us:=by
 grind[yD,EE,bw,Lp]
theorem AHK{us}{x}(h:yL us=some x):AIU x=us:=by
 grind[yL,KO,EE,AZM,Lp]
theorem AHL{us}{x}(h:yM us=some x):AIV x=us:=by
 grind[yM,KO,EE,Lp]
theorem AMq:∀{n:Nat} {us:List U} {x:tD n},ofS n us=some x->AFQ n x=us
 |0,us,x,h=>AT8 h|1,us,x,h=>AHG h|2,us,x,h=>AHE h|3,us,x,h=>AD5 h|4,us,x,h=>AHB h|5,us,x,h=>AT6 h|6,us,x,h=>AHI h|7,us,x,h=>AHA h|8,us,x,h=>AHD h|9,us,x,h=>AMp h|10,us,x,h=>AHH h|11,us,x,h=>AD4 h|12,us,x,h=>AHF h|13,us,x,h=>AHJ h|14,us,x,h=>AT4 h|15,us,x,h=>AHC h|16,us,x,h=>AHK h|17,us,x,h=>AHL h|_+18,us,x,h=>by cases h
theorem Ts{α}{us}{f:U->Option α}{r}(h:of1 us f=some r):∃u,us=[u]/\f u=some r:=by
 match us,h with
 | [u],h=>exact⟨u,rfl,h⟩
theorem AE7:∀{n:Nat} {us:List U} {x:Unit},Na n us=some x->us=List.replicate n .un|0,[],_,_=>rfl|n+1,.un::us,x,h=>by rw[JT,<-AE7 (n:=n) (x:=x) (by simpa only[Na] using h)]|0,_::_,_,h=>by simp[Na]at h|n+1,[],_,h=>by simp[Na]at h|n+1,.int _ _::_,_,h=>by simp[Na]at h|n+1,.top::_,_,h=>by simp[Na]at h|n+1,.u8 _::_,_,h=>by simp[Na]at h|n+1,.bool _::_,_,h=>by simp[Na]at h|n+1,.str _::_,_,h=>by simp[Na]at h|n+1,.nil::_,_,h=>by simp[Na]at h|n+1,.np::_,_,h=>by simp[Na]at h|n+1,.sl _ _::_,_,h=>by simp[Na]at h|n+1,.mp _::_,_,h=>by simp[Na]at h
theorem ag:∀{c:C} {us:List U} {x:c.D},ofC c us=some x->cells c x=us
 |.i,us,x,h=>by obtain⟨u,rfl,h⟩:=Ts h;obtain rfl:=AWH h;rfl
 |.u,us,x,h=>by obtain⟨u,rfl,h⟩:=Ts h;obtain rfl:=AZ8 h;rfl
 |.b,us,x,h=>by obtain⟨u,rfl,h⟩:=Ts h;obtain rfl:=ALo h;rfl
 |.s,us,x,h=>by obtain⟨u,rfl,h⟩:=Ts h;obtain rfl:=AWJ h;rfl
 |.ki k,us,x,h=>by obtain⟨u,rfl,h⟩:=Ts h;obtain rfl:=AZ7 h;rfl
 |.m,us,x,h=>by obtain⟨u,rfl,h⟩:=Ts h;obtain rfl:=AZ6 h;rfl
 |.z,us,x,h=>by obtain⟨u,rfl,h⟩:=Ts h;obtain rfl:=AZ9 h;rfl
 |.l c,us,x,h=>by obtain⟨u,rfl,h⟩:=Ts h;obtain rfl:=AWI h;rfl
 |.st n,us,x,h=>AMq h|.un n,us,x,h=>(AE7 (show Na n us=some x from h)).symm
theorem JC{c}{us}{x}(h:ofC c us=some x):enc c x=us.map U.fg:=by rw[FY,ag h]
theorem ZJ:∀(c:C) (x:c.D),(cells c x).length=c.size
 |.i,x=>rfl|.u,x=>rfl|.b,x=>rfl|.s,x=>rfl|.m,x=>rfl|.ki _,x=>rfl|.z,x=>rfl|.l c,xs=>rfl|.un n,x=>List.length_replicate|.st n,x=>by
  match n,x with
  |0,x=>rfl|1,x=>rfl|2,x=>rfl|3,x=>rfl|4,x=>rfl|5,x=>rfl|6,x=>rfl|7,x=>rfl|8,x=>rfl|9,x=>rfl|10,x=>rfl|11,x=>rfl|12,x=>rfl|13,x=>rfl|14,x=>rfl|15,x=>rfl|16,x=>rfl|17,x=>rfl|_+18,x=>rfl
theorem PM c  x :(enc c x).length=c.size:=by rw[FY,Ac,ZJ]
theorem AXc{c}{us}{x}(h:ofC c us=some x):us.length=c.size:=by rw[<-ag h,ZJ]
def Cap.fg:Cap->AS|.t x=>.t x.fg|.vw k c xs=>.vw (.old k) c.size (xs.map (enc c))|.vp k cs=>.vp (.old k) (cs.map U.fg)|.bp id off=>.bp id off
namespace Y
section
variable(R:List GF)
def xr(n:Nat):CQ:=match R[n]? with|some g=>g.x|none=>.NK 0 []
def NY(rows:List (List T)):List (Nat×Nat)->List (List T)| []=>rows|(i,j)::hs=>NY (Jg rows i j .top) hs
def AS.fg:AS->Lv.AS|.t x=>.t x.fg|.und=>.und|.ow x=>.ow x.fg|.owh c xs hs=>.ow (.sl c.size (NY (xs.map (enc c)) hs))|.al r sub=>.al r sub|.ep r i j=>.ep r i.toNat j|.vw s c xs=>.vw s c.size (xs.map (enc c))|.vp s cs=>.vp s (cs.map U.fg)|.bp id off=>.bp id off|.fn n caps=>.fn (xr R n) (caps.map Cap.fg)
def Ent.fg(e:Ent):Lv.Ent:=⟨e.sh,e.cs.map (AS.fg R)⟩
def En.fg(e:En):Lv.Ent:=⟨e.sh,e.cs.map (AS.fg R)⟩
def fgE(l:List (Nat×Ent)):List (Nat×Lv.Ent):=l.map λp=>(p.1,p.2.fg R)
def fgB(l:List (Nat×Bx)):List (Nat×List Lv.AS):=l.map λp=>(p.1,p.2.cs.map (AS.fg R))
def St.fg(S:St):Lv.St:=⟨fgE R S.tm,fgB R S.bx,S.pin⟩
theorem mem_iff{k}{ks}:mem k ks=true↔k∈ks:=by
 induction ks with
 |nil=>simp[mem]|cons x xs j=>
  simp only[mem,Ae];by_cases h:k=x
  .subst h;simp
  grind[Nat.beq,Nat.eq_of_beq_eq_true]
theorem OA{k}{ks}:mem k ks=false↔k∉ks:=by
 rw[<-mem_iff];cases mem k ks<;>simp
theorem beq_true{a b:Nat}(h:Nat.beq a b=true):a=b:=E0 h
theorem beq_false{a b:Nat}(h:Nat.beq a b=false):a≠b:=IJ h
theorem get_eq{α}:∀(l:List (Nat×α)) (k:Nat),get l k=Lv.get l k
 | [],_=>rfl|(j,a)::r,k=>by
  simp only[get,Lv.get];cases h:Nat.beq j k with
  |true=>rw[AW (beq_true h)]|false=>rw[AT (beq_false h),get_eq r k]
theorem AHc{α}:∀(l:List (Nat×α)) (k:Nat) (a:α),put l k a=Lv.put l k a
 | [],_,_=>rfl|(j,b)::r,k,a=>by
  simp only[put,Lv.put];cases h:Nat.beq k j with
  |true=>rw[AW (beq_true h)]|false=>
   rw[AT (beq_false h)];have B:=beq_false h;cases q:Nat.ble k j with
   |true=>have:=Im q;rw[AW (by omega)]
   |false=>have:¬k<=j:=λy=>by rw[Nat.ble_eq_true_of_le y]at q;cases q
           rw[AT (by omega),AHc r k a]
theorem lI{α} ks :∀(l:List (Nat×α)),KM ks l=Lv.KM ks l
 | []=>rfl|(j,b)::r=>by
  simp only[KM,Lv.KM];cases h:mem j ks with
  |true=>rw[AW (mem_iff.1 h),lI ks r]|false=>rw[AT (OA.1 h),lI ks r]
theorem aQ{α} ks :∀(l:List (Nat×α)),HB ks l=Lv.HB ks l
 | []=>rfl|(j,b)::r=>by
  simp only[HB,Lv.HB];cases h:mem j ks with
  |true=>rw[AW (mem_iff.1 h),aQ ks r]|false=>rw[AT (OA.1 h),aQ ks r]
theorem get_map{α β}(f:α->β):∀(l:List (Nat×α)) (k:Nat),Lv.get (l.map λp=>(p.1,f p.2)) k=(Lv.get l k).map f
 | [],_=>rfl|(j,a)::r,k=>by
  simp only[AK,Lv.get];by_cases h:j=k
  .simp[h]
  .simp[h,get_map f r k]
theorem ye{α β}(f:α->β):∀(l:List (Nat×α)) (k:Nat) (a:α),Lv.put (l.map λp=>(p.1,f p.2)) k (f a)=(Lv.put l k a).map λp=>(p.1,f p.2)
 | [],_,_=>rfl|(j,b)::r,k,a=>by
  simp only[AK,Lv.put];by_cases h:k=j
  .simp[h]
  .by_cases q:k<j
   .simp[h,q]
   .simp[h,q,ye f r k a]
theorem Zc{α β}(f:α->β) ks :∀(l:List (Nat×α)),Lv.KM ks (l.map λp=>(p.1,f p.2))=(Lv.KM ks l).map λp=>(p.1,f p.2)
 | []=>rfl|(j,b)::r=>by
  simp only[AK,Lv.KM];by_cases h:j∈ks
  .simp[h,Zc f ks r]
  .simp[h,Zc f ks r]
theorem Rr{α β}(f:α->β) ks :∀(l:List (Nat×α)),Lv.HB ks (l.map λp=>(p.1,f p.2))=(Lv.HB ks l).map λp=>(p.1,f p.2)
 | []=>rfl|(j,b)::r=>by
  simp only[AK,Lv.HB];by_cases h:j∈ks
  .simp[h,Rr f ks r]
  .simp[h,Rr f ks r]
variable {R}
theorem Xw(S:St) k :Lv.get (S.fg R).tm k=(get S.tm k).map (Ent.fg R):=by rw[get_eq];exact get_map (Ent.fg R) S.tm k
theorem PO(S:St) k :Lv.get (S.fg R).bx k=(get S.bx k).map (λb=>b.cs.map (AS.fg R)):=by rw[get_eq];exact get_map (λb:Bx=>b.cs.map (AS.fg R)) S.bx k
end
end Y
namespace Y
section
variable{R:List GF}
theorem CL.ATg r r' :CL.is r r'=decide (r=r'):=by
 have j:∀a b:Nat,Nat.beq a b=decide (a=b):=λa b=>by
  grind[Nat.beq,beq_true,beq_false]
 cases r<;>cases r'<;>simp only[CL.is,CL.tmp.injEq,CL.cell.injEq,reduceCtorEq,decide_false]
 .grind
 grind
theorem aM o  r :isR o r=decide (o=some r):=by
 cases o with
 |none=>simp[isR]|some q=>simp[isR,CL.ATg]
theorem RM(a b:Nat):Nat.beq a b=decide (a=b):=by
 grind[Nat.beq,beq_true,beq_false]
theorem AZR o  r :isN o r=decide (o=some r):=by
 cases o with
 |none=>simp[isN]|some q=>simp[isN,RM]
theorem Ui k  ks :mem k ks=decide (k∈ks):=by
 grind[mem,mem_iff,OA]
@[simp] theorem LV(l:AS):(AS.fg R l).B8=l.B8:=by
 cases l<;>try rfl
 .rename_i s c xs;cases s<;>rfl
 .rename_i s cs;cases s<;>rfl
@[simp] theorem AO7(l:AS):(AS.fg R l).Mg=l.Mg:=by
 cases l<;>try rfl
 .rename_i r sub;cases r<;>rfl
 .rename_i r i j;cases r<;>rfl
 .rename_i s c xs;cases s with
  |own r p=>cases r<;>rfl
  |old k=>rfl
 .rename_i s cs;cases s with
  |own r p=>cases r<;>rfl
  |old k=>rfl
@[simp] theorem AFO(l:Cap):l.fg.Mg=l.Mg:=by cases l<;>rfl
theorem bN(l:Cap):AS.fg R l.leaf=l.fg:=by cases l<;>rfl
theorem AMs r  l :Lv.MK r (AS.fg R l)=MK r l:=by simp[Lv.MK,MK,aM]
theorem Rz r  l :Lv.Fo r (AS.fg R l)=Fo r l:=by
 cases l<;>try rfl
 .rename_i s c xs;cases s with|own r p=>simp[AS.fg,Lv.Fo,Fo,CL.ATg]|old k=>rfl
 .rename_i s cs;cases s with|own r p=>simp[AS.fg,Lv.Fo,Fo,CL.ATg]|old k=>rfl
theorem YU d  l :Lv.FO d (AS.fg R l)=FO d l:=by
 grind[Lv.FO,FO,LV,RM]
theorem YT d  l :Lv.GA d (AS.fg R l)=GA d l:=by
 have h:=AO7 (R:=R) l;cases l<;>simp only[AS.fg]at h ⊢ <;> simp only[Lv.GA,GA,AZR]<;>first|rw[h]|skip
 simp[Ht,Function.comp_def]
theorem AZo ks(o:Option Nat):(match o with|some d=>decide (d∉ks)|none=>false)=(match o with|some d=>!mem d ks|none=>false):=by
 grind[Ui]
theorem AMr ks  l :Lv.MJ ks (AS.fg R l)=MJ ks l:=by
 have h:=AO7 (R:=R) l;cases l with
 |fn n caps=>
  simp only[AS.fg,Lv.MJ,MJ,Ht,Function.comp_def,AFO];congr 1;funext x;exact AZo ks _
 |_=>
  grind[AS.fg,Lv.MJ,MJ,AS.Mg,Ui]
theorem mz ks  l :Lv.JB ks (AS.fg R l)=JB ks l:=by
 grind[Lv.JB,JB,LV,AMr,Ui]
theorem AK9 ks  l :Lv.aI ks (AS.fg R l)=aI ks l:=by
 grind[Lv.aI,aI,LV,Ui]
theorem Mu{q:AS->Bool}{q':Lv.AS->Bool}(j:∀l,q' (AS.fg R l)=q l):∀ls,Lv.Eo q' (ls.map (AS.fg R))=(Eo q ls).map (AS.fg R)
 | []=>rfl|l::ls=>by
  simp only[AK,Lv.Eo,Eo,j,Mu j ls];cases q l<;>rfl
theorem V1{q}:∀{ls:List AS},ls.any q=false->Eo q ls=ls
 | [],_=>rfl|l::ls,h=>by
  simp only[List.any_cons,Bool.or_eq_false_iff]at h;simp only[Eo,h.1,BJ,if_false,V1 h.2]
theorem YR{q:AS->Bool}{q':Lv.AS->Bool}(j:∀l,q' (AS.fg R l)=q l)(v:Nat):∀ls,Lv.Lr q' (fgE R ls)=fgE R (Lr v q ls)
 | []=>rfl|(k,e)::ls=>by
  have y:=YR j v ls;simp only[fgE,AK,Lv.Lr,Lr]at y ⊢;rw[y];congr 2;simp only[Ent.fg];cases h:e.cs.any q with
  |true=>simp only[if_true,Mu j]|false=>rw[AT (by simp),Mu j,V1 h]
theorem YQ{q:AS->Bool}{q':Lv.AS->Bool}(j:∀l,q' (AS.fg R l)=q l)(v:Nat):∀ls,Lv.Lq q' (fgB R ls)=fgB R (Lq v q ls)
 | []=>rfl|(k,e)::ls=>by
  have y:=YQ j v ls;simp only[fgB,AK,Lv.Lq,Lq]at y ⊢;rw[y];congr 2;cases h:e.cs.any q with
  |true=>simp only[if_true,Mu j]|false=>rw[AT (by simp),Mu j,V1 h]
theorem LM{q:AS->Bool}{q':Lv.AS->Bool}(j:∀l,q' (AS.fg R l)=q l)(S:St):(S.fg R).kill q'=(S.kill q).fg R:=by
 simp only[St.fg,Lv.St.kill,St.kill,YR j S.nv,YQ j S.nv]
theorem Mb(S:St) d  sh  cs :(S.Kl d sh cs).fg R={ S.fg R with tm:=Lv.put (S.fg R).tm d ⟨sh,cs.map (AS.fg R)⟩}:=by
 simp only[St.fg,St.Kl,AHc,fgE];rw[<-ye (Ent.fg R)];rfl
theorem Uo(S:St) d  cs :(S.O7 d cs).fg R={ S.fg R with bx:=Lv.put (S.fg R).bx d (cs.map (AS.fg R))}:=by
 simp only[St.fg,St.O7,AHc,fgB];rw[<-ye (λb:Bx=>b.cs.map (AS.fg R))]
theorem ADL(S:St) ks :(S.Ir ks).fg R=(S.fg R).Ir ks:=by
 simp only[St.fg,Lv.St.Ir,St.Ir,lI];rw[<-YR (AK9 ks),<-YQ (AK9 ks)];simp only[fgE];rw[<-Zc]
theorem Sr(S:St) ks :(S.clean ks).fg R=(S.fg R).clean ks:=by
 simp only[St.fg,Lv.St.clean,St.clean,aQ];rw[<-YR (mz ks),<-YQ (mz ks)];simp only[fgE,fgB];rw[<-Rr,<-Rr (λb:Bx=>b.cs.map (AS.fg R))]
theorem Jx(S:St) r :(S.fg R).at r=(S.at r).map (AS.fg R):=by
 cases r with
 |tmp s c=>
  grind[Lv.St.at,St.at,Xw,get,Ent.fg]
 |cell s c=>
  grind[Lv.St.at,St.at,PO,get]
theorem GQ(S:St) r  l :(S.Bi r l).fg R=(S.fg R).Bi r (AS.fg R l):=by
 cases r with
 |tmp s c=>
  simp only[Lv.St.Bi,St.Bi,Xw];cases h:get S.tm s with
  |none=>rfl|some e=>simp[Mb,Ent.fg]
 |cell s c=>
  simp only[Lv.St.Bi,St.Bi,PO];cases h:get S.bx s with
  |none=>rfl|some e=>simp[Uo]
theorem AFa{l}:AS.fg R l=.t .nil↔l=.t .nil:=by
 cases l<;>simp[AS.fg];rename_i x;cases x<;>simp[U.fg]
theorem AZl(S:St) r  c :AS.fg R (S.nl0 r c)=(S.fg R).nl0 r c.size:=by
 cases r with
 |tmp s k=>rfl|cell id k=>
  simp only[St.nl0,Lv.St.nl0,Ui];have j:(S.fg R).pin=S.pin:=rfl
  grind[AS.fg,U.fg]
def Rw.fg:Rw->List (List T)|.nl=>[]|.of c xs=>xs.map (enc c)
theorem Ve{x}{w}(h:content x=some w):Lv.content x.fg=some w.fg:=by
 cases x<;>simp[content]at h<;>subst h<;>rfl
theorem bE{α β:Type}(f:α->β) sub(xs:List α):(oG sub xs).map f=oG sub (xs.map f):=by
 cases sub with
 |none=>rfl|some p=>simp[oG]
theorem zM sub  xs :KF sub xs=oG sub xs:=by cases sub<;>rfl
theorem AV6 sub(w:Rw):(w.sub sub).fg=KF sub w.fg:=by
 cases w with
 |nl=>cases sub<;>simp[Rw.sub,Rw.fg,KF]
 |of c xs=>simp only[Rw.sub,Rw.fg,bE,zM]
theorem eZ{c}{w:Rw}{ys}(h:w.as c=some ys):w.fg=ys.map (enc c):=by
 cases w with
 |nl=>cases h;rfl
 |of q xs=>
  simp only[Rw.as]at h;split at h
  .rename_i j;subst j;cases h;rfl
  .cases h
theorem Y1 sub  x :(AHz sub x).fg=pP sub x.fg:=by
 cases x<;>try rfl
 simp only[AHz,U.fg,pP,bE,zM]
theorem QX{S:St}{l}{w}(h:S.elems l=some w):(S.fg R).elems (AS.fg R l)=some w.fg:=by
 unfold St.elems at h;split at h
 .grind[AS.fg,Lv.St.elems,Jx,Ve,AV6]
 .cases h;rfl
 .cases h;rfl
 .cases h
theorem AYt s c  l :AS.fg R (l.ali s c)=(AS.fg R l).ali s c:=by cases l<;>rfl
theorem tu(s:Nat):∀(c:Nat) (ls:List AS),(Sk s c ls).map (AS.fg R)=Lv.Sk s c (ls.map (AS.fg R))|_,[]=>rfl|c,l::ls=>by simp only[Sk,AK,Lv.Sk,AYt,tu s (c+1) ls]
theorem AIB b :∀(c:Nat) (ls:List AS),(RI b c ls).map (AS.fg R)=Lv.RI b c (ls.map (AS.fg R))
 |_,[]=>rfl|c,l::ls=>by
  have j:=AIB b (c+1) ls;cases l<;>simp only[RI,AK,AS.fg,Lv.RI,j]
theorem ATo x :AS.fg R (sR x)=Lv.sR x.fg:=by cases x<;>rfl
def YO.er(R:List GF):YO->Opd|.tmp t=>.tmp t|.k x=>.k x.fg|.fn n=>.fn (xr R n)
theorem Lu{S:St}{x}{e}(h:S.rd x=some e):(S.fg R).rd (x.er R)=some (e.fg R):=by
 cases x with
 |tmp s=>
  grind[St.rd,YO.er,Lv.St.rd,Xw,get,Ent.fg,En.fg,tu]
 |k x=>cases h;simp[YO.er,Lv.St.rd,En.fg,ATo]
 |fn n=>cases h;rfl
theorem au{S:St}:∀{xs:List YO} {es:List En},S.rds xs=some es->(S.fg R).rds (xs.map (YO.er R))=some (es.map (En.fg R))
 | [],es,h=>by cases h;rfl
 |x::xs,es,h=>by
  simp only[St.rds]at h;split at h
  .rename_i e j q y;cases h;simp only[AK,Lv.St.rds,Lu q,au y]
  .cases h
structure Bc(S S':St):Prop where
 nv:S.nv<=S'.nv
 tm:∀k e,get S'.tm k=some e->e.ver<S.nv->get S.tm k=some e
 bx:∀k e,get S'.bx k=some e->e.ver<S.nv->get S.bx k=some e
 pin:S'.pin=S.pin
theorem Bc.refl S :Bc S S:=⟨Ab _,λ_ _ h _=>h,λ_ _ h _=>h,rfl⟩
theorem Bc.trans{S S' S2}(h:Bc S S')(q:Bc S' S2):Bc S S2:=
 ⟨Nat.le_trans h.nv q.nv,λk e y j=>h.tm k e (q.tm k e y (BY j h.nv)) j,λk e y j=>h.bx k e (q.bx k e y (BY j h.nv)) j,q.pin.trans h.pin⟩
theorem GG{α:Type} l(k j:Nat)(a:α):get (put l k a) j=if j=k then some a else get l j:=by
 induction l with
 |nil=>
  by_cases h:j=k
  .subst h;simp[put,get]
  grind[put,get,Nat.beq,beq_true]
 |cons p r q=>
  grind[put,Nat.beq,beq_true,get,beq_false,Nat.ble]
theorem Bc.Kl S  d  sh  cs :Bc S (S.Kl d sh cs):=by
 refine⟨by simp[St.Kl],λk e j q=>?_,λk e j _=>j,rfl⟩
 grind[St.Kl,GG]
theorem Bc.O7 S  d  cs :Bc S (S.O7 d cs):=by
 refine⟨by simp[St.O7],λk e j _=>j,λk e j q=>?_,rfl⟩
 grind[St.O7,GG]
theorem FZ{v}{q}:∀{l:List (Nat×Ent)} {k:Nat} {e:Ent},get (Lr v q l) k=some e->e.ver<v->get l k=some e
 | [],_,_,h,_=>h|(i,b)::r,k,e,h,y=>by
  simp only[Lr,get]at h ⊢;cases j:Nat.beq i k with
  |true=>
   grind[Option.some.injEq]
  |false=>rw[j]at h;exact FZ h y
theorem DY{v}{q}:∀{l:List (Nat×Bx)} {k:Nat} {e:Bx},get (Lq v q l) k=some e->e.ver<v->get l k=some e
 | [],_,_,h,_=>h|(i,b)::r,k,e,h,y=>by
  simp only[Lq,get]at h ⊢;cases j:Nat.beq i k with
  |true=>
   grind[Option.some.injEq]
  |false=>rw[j]at h;exact DY h y
theorem ME{α}{ks}:∀{l:List (Nat×α)} {k:Nat} {e:α},get (KM ks l) k=some e->get l k=some e
 | [],_,_,h=>h|(i,b)::r,k,e,h=>by
  simp only[KM]at h;simp only[get];cases E:mem i ks with
  |true=>
   rw[E]at h;cases q:Nat.beq i k with
   |true=>
    have B:=beq_true q;subst B;exfalso;have:∀(l:List (Nat×α)) (e:α),get (KM ks l) i≠some e:=by
     intro l
     induction l with
     |nil=>intro e h;cases h
     |cons p r H=>
      intro e h;obtain⟨j,c⟩:=p;simp only[KM]at h;cases y:mem j ks with
      |true=>rw[y]at h;exact H e h|false=>
       rw[y]at h;simp only[get]at h;cases G:Nat.beq j i with
       |true=>have:=beq_true G;subst this;rw[E]at y;cases y
       |false=>rw[G]at h;exact H e h
    exact this r e h
   |false=>exact ME h
  |false=>
   rw[E]at h;simp only[get]at h;cases q:Nat.beq i k with
   |true=>rw[q]at h;exact h|false=>rw[q]at h;exact ME h
theorem Hh{α}{ks}:∀{l:List (Nat×α)} {k:Nat} {e:α},get (HB ks l) k=some e->get l k=some e
 | [],_,_,h=>h|(i,b)::r,k,e,h=>by
  simp only[HB]at h;simp only[get];cases E:mem i ks with
  |false=>
   rw[E]at h;cases q:Nat.beq i k with
   |true=>
    have B:=beq_true q;subst B;exfalso;have:∀(l:List (Nat×α)) (e:α),get (HB ks l) i≠some e:=by
     intro l
     induction l with
     |nil=>intro e h;cases h
     |cons p r H=>
      intro e h;obtain⟨j,c⟩:=p;simp only[HB]at h;cases y:mem j ks with
      |false=>rw[y]at h;exact H e h|true=>
       rw[y]at h;simp only[get]at h;cases G:Nat.beq j i with
       |true=>have:=beq_true G;subst this;rw[E]at y;cases y
       |false=>rw[G]at h;exact H e h
    exact this r e h
   |false=>exact Hh h
  |true=>
   rw[E]at h;simp only[get]at h;cases q:Nat.beq i k with
   |true=>rw[q]at h;exact h|false=>rw[q]at h;exact Hh h
theorem Bc.kill S  q :Bc S (S.kill q):=
 ⟨by simp[St.kill],λ_ _ j y=>FZ j y,λ_ _ j y=>DY j y,rfl⟩
theorem Bc.Ir S  ks :Bc S (S.Ir ks):=
 ⟨by simp[St.Ir],λ_ _ j q=>ME (FZ j q),λ_ _ j q=>DY j q,rfl⟩
theorem Bc.clean S  ks :Bc S (S.clean ks):=
 ⟨by simp[St.clean],λ_ _ j q=>Hh (FZ j q),λ_ _ j q=>Hh (DY j q),rfl⟩
theorem Bc.Bi S  r  l :Bc S (S.Bi r l):=by
 cases r<;>simp only[St.Bi]<;>split<;>first|exact Bc.Kl _ _ _ _|exact Bc.O7 _ _ _|exact Bc.refl _
theorem Bc.out S  r :Bc S (S.out r):=(Bc.Bi _ _ _).trans (Bc.kill _ _)
theorem Bc.ae S  r  c :Bc S (S.ae r c):=by
 unfold St.ae St.turn
 repeat' split
 all_goals first|exact Bc.refl _|exact Bc.Bi _ _ _|exact((Bc.out _ _).trans (Bc.Bi _ _ _)).trans (Bc.Bi _ _ _)
theorem Bc.Rv:∀(ns:List (CL×C)) (S:St),Bc S (S.Rv ns)| [],S=>Bc.refl S|(r,c)::ns,S=>(Bc.ae S r c).trans (Bc.Rv ns _)
theorem Gz{γ} n(K:Nat->γ):Db n K=K n:=by cases n<;>rfl
theorem U.FA{γ} x(K:U->γ):x.GY K=K x:=by cases x<;>rfl
theorem lR{γ:Type}:∀(xs:List U) (K:List U->γ),eC xs K=K xs| [],K=>rfl|x::xs,K=>by simp only[eC,U.FA,lR xs]
theorem sC{γ} r(K:CL->γ):lP r K=K r:=by cases r<;>simp only[lP,Gz]
theorem ADV{γ} r(K:Src->γ):TV r K=K r:=by
 cases r with
 |own r p=>simp only[TV,sC];cases p with|none=>rfl|some p=>obtain⟨i,j⟩:=p;simp only[Gz]
 |old k=>simp only[TV,Gz]
theorem AS.FA{γ} x(K:AS->γ):x.GY K=K x:=by
 cases x<;>simp only[AS.GY,U.FA,sC,Gz,ADV,lR]
 grind
theorem RY{γ:Type}:∀(xs:List AS) (K:List AS->γ),Uc xs K=K xs| [],K=>rfl|x::xs,K=>by simp only[Uc,AS.FA,RY xs]
theorem Vo{γ:Type}:∀(xs:List (Option Nat)) (K:List (Option Nat)->γ),Ud xs K=K xs| [],K=>rfl|none::xs,K=>by simp only[Ud,Vo xs]|some n::xs,K=>by simp only[Ud,Gz,Vo xs]
theorem lQ{γ} x(K:Sh->γ):eB x K=K x:=by cases x<;>simp only[eB,Vo,Gz]
theorem rz{γ:Type}:∀(xs:List (Nat×Ent)) (K:List (Nat×Ent)->γ),vL xs K=K xs| [],K=>rfl|(k,⟨sh,cs,v⟩)::xs,K=>by simp only[vL,lQ,RY,Gz,rz xs]
theorem rr{γ:Type}:∀(xs:List (Nat×Bx)) (K:List (Nat×Bx)->γ),vK xs K=K xs| [],K=>rfl|(k,⟨cs,v⟩)::xs,K=>by simp only[vK,RY,Gz,rr xs]
theorem sA{γ:Type}:∀(xs:List Nat) (K:List Nat->γ),vM xs K=K xs| [],K=>rfl|k::xs,K=>by simp only[vM,sA xs]
theorem FA{γ} S(K:St->γ):S.GY K=K S:=by
 obtain⟨tm,bx,pin,nv⟩:=S;simp only[St.GY,rz,rr,sA,Gz]
theorem ALU{α γ} s  a :∀(l:List (Nat×α)) (K:List (Nat×α)->γ),AXo s a l K=K (put l s a)
 | [],K=>rfl|(k,b)::r,K=>by
  simp only[AXo,put];cases Nat.beq s k with
  |true=>rfl|false=>cases Nat.ble s k with|true=>rfl|false=>simp only[ALU s a r]
variable{ρ:Type}
theorem eO{S}{d}{sh}{cs}{K:St->Option ρ}{r}(h:Hs S d sh cs K=some r) :
 ∃S',(S.fg R).EY d ⟨sh,cs.map (AS.fg R)⟩=some (S'.fg R)/\Bc S S'/\K S'=some r:=by
 unfold Hs at h;cases q:mem d S.pin with
 |true=>rw[q]at h;cases h
 |false=>
  rw[q]at h;have y:d∉(S.fg R).pin:=OA.1 q;cases j:get S.tm d with
  |none=>
   rw[j]at h;simp only[lQ,RY,Gz,ALU]at h;refine⟨S.Kl d sh cs,?_,Bc.Kl _ _ _ _,h⟩
   grind[Mb,Lv.St.EY,Xw]
  |some e=>
   rw[j]at h;simp only[FA]at h;refine⟨_,?_,(Bc.kill _ _).trans (Bc.Kl _ _ _ _),h⟩;unfold Lv.St.EY;rw[AT y,Xw,j,Mb,<-LM (YU d),<-Mu (YU d)];rfl
end
end Y
namespace Y
section
variable{R:List GF}
theorem AXQ l :Lv.xj (AS.fg R l)=xj l:=by cases l<;>rfl
theorem AVj(a b:Option CL):(match a with|some r=>isR b r|none=>b.isNone)=decide (a=b):=by
 cases a with
 |none=>cases b<;>simp
 |some r=>simp only[aM];rw[decide_eq_decide];exact eq_comm
theorem tU:∀ls:List AS,Lv.O2 (ls.map (AS.fg R))=O2 ls
 | []=>rfl|l::ls=>by
  simp only[AK,Lv.O2,O2,tU ls,J3,Function.comp_def,AXQ,LV];congr 1;refine congrArg (λf=>List.all ls f) (funext λl'=>?_);rw[<-AVj]<;>(cases l.B8<;>rfl)
theorem V6(S:St) r :(S.out r).fg R=(S.fg R).out r:=by
 unfold St.out Lv.St.out;rw[<-LM (AMs r),GQ];rfl
theorem AYA(S:St) r :(S.turn r).fg R=(S.fg R).turn r:=by
 unfold St.turn Lv.St.turn;rw[Jx];cases h:S.at r with
 |none=>rfl|some l=>
  cases l with
  |al r' sub=>
   cases sub with
   |none=>
    simp only[Ap,AS.fg];rw[Jx];cases j:S.at r' with
    |none=>rfl|some l'=>cases l'<;>simp[AS.fg,GQ,V6]
   |some p=>rfl
  |_=>rfl
theorem AXa(S:St) r  c :(S.ae r c).fg R=(S.fg R).ae r c.size:=by
 unfold St.ae Lv.St.ae;cases j:Nat.beq c.size 0 with
 |true=>rw[AW (E0 j)];exact AYA S r|false=>
  rw[AT (IJ j),Jx];cases h:S.at r with
  |none=>rfl|some l=>grind[AS.fg,U.fg,GQ,AZl,AFa]
theorem xx:∀(ns:List (CL×C)) (S:St),(S.Rv ns).fg R=(S.fg R).Rv (ns.map λp=>(p.1,p.2.size))| [],S=>rfl|(r,c)::ns,S=>by simp only[St.Rv,AK,Lv.St.Rv];rw[xx ns,AXa]
theorem oN:∀{ls:List AS} {S S':St} {ls':List AS},KU S ls=some (S',ls')->Lv.KU (S.fg R) (ls.map (AS.fg R))=some (S'.fg R,ls'.map (AS.fg R))/\Bc S S'
 | [],S,S',ls',h=>by cases h;exact⟨rfl,Bc.refl _⟩
 |l::ls,S,S',ls',h=>by
  have gen:(match KU S ls with|some (S',ls')=>some (S',l::ls')|none=>none)=some (S',ls') ->
   (match Lv.KU (S.fg R) (ls.map (AS.fg R)) with|some (S',ls')=>some (S',AS.fg R l::ls')|none=>none)=some (S'.fg R,ls'.map (AS.fg R))/\Bc S S':=by
   intro h;split at h
   .rename_i S2 E q;cases h;obtain⟨j,y⟩:=oN q;rw[j];exact⟨rfl,y⟩
   .cases h
  cases l with
  |al r sub=>
   simp only[KU]at h;simp only[AK,AS.fg,Lv.KU,Jx];split at h
   .rename_i x B;rw[B];split at h
    .rename_i S2 E q;cases h;obtain⟨j,y⟩:=oN q;rw[V6]at j;simp only[Ap,AS.fg,j,AK,Y1];exact⟨trivial,(Bc.out _ _).trans y⟩
    .cases h
   .cases h
  |_=>exact gen h
theorem Q4{ls:List AS}{S S':St}{ls':List AS}(h:Lx S ls=some (S',ls')):Lv.Lx (S.fg R) (ls.map (AS.fg R))=some (S'.fg R,ls'.map (AS.fg R))/\Bc S S':=by
 grind[Lx,Lv.Lx,tU,oN]
theorem AWr{x:YO}{ls:List AS}{S S':St}{ls':List AS}(h:uI S x ls=some (S',ls')):Lv.uI (S.fg R) (x.er R) (ls.map (AS.fg R))=some (S'.fg R,ls'.map (AS.fg R))/\Bc S S':=by
 cases x with
 |tmp s=>
  unfold uI at h;unfold Lv.uI;simp only[YO.er];dsimp only at h;split at h
  .rename_i j;rw[AW (show s∈(S.fg R).pin from mem_iff.1 j)];cases h;exact⟨rfl,Bc.refl _⟩
  .rename_i j;rw[AT (show s∉(S.fg R).pin from OA.1 j)];exact Q4 h
 |k y=>exact Q4 h|fn n=>exact Q4 h
theorem mR x :Lv.Sa x.fg=Sa x:=by cases x<;>rfl
theorem AXT x :Lv.aN x.fg=aN x:=by cases x<;>rfl
theorem AMV rows :∀(q:List (Nat×Nat)) (i j:Nat),NY rows (q++[(i,j)])=Jg (NY rows q) i j .top:=by
 intro q
 induction q generalizing rows with
 |nil=>intro i j;rfl
 |cons p q y=>intro i j;obtain⟨a,b⟩:=p;simp only[Bm,NY];exact y _ i j
theorem ALT{S S'}{r}{i j}(h:S.pull r i j=some S'):(S.fg R).pull r i j=some (S'.fg R)/\Bc S S':=by
 unfold St.pull at h;unfold Lv.St.pull;rw[Jx];split at h
 .rename_i c xs q;cases h;rw[q];simp only[Ap,AS.fg,U.fg,AD];refine⟨?_,(Bc.Bi _ _ _).trans (Bc.kill _ _)⟩;rw[<-LM (Rz r),GQ];rfl
 .rename_i c xs y q;cases h;rw[q];simp only[Ap,AS.fg,AD];refine⟨?_,(Bc.Bi _ _ _).trans (Bc.kill _ _)⟩;rw[<-LM (Rz r),GQ];simp only[AS.fg,AMV]
 .cases h
theorem AUG(r:CL):∀ls:List AS,Lv.onR r (ls.map (AS.fg R))=onR r ls| []=>rfl|l::ls=>by simp only[AK,Lv.onR,onR,LV,aM,AUG r ls]
theorem Ma:∀{ls:List AS} {S S':St} {us:List U},D1 S ls=some (S',us)->Lv.D1 (S.fg R) (ls.map (AS.fg R))=some (S'.fg R,us.map U.fg)/\Bc S S'
 | [],S,S',us,h=>by cases h;exact⟨rfl,Bc.refl _⟩
 |l::ls,S,S',us,h=>by
  cases l with
  |t x=>
   simp only[D1]at h;simp only[AK,AS.fg,Lv.D1,mR];split at h
   .cases h
   .rename_i G;rw[AT G];split at h
    .rename_i S2 I B;cases h;obtain⟨y,E⟩:=Ma B;rw[y];exact⟨rfl,E⟩
    .cases h
  |al r sub=>
   simp only[D1]at h;simp only[AK,AS.fg,Lv.D1,Jx];split at h
   .rename_i x H;rw[H];split at h
    .rename_i S2 I B;cases h;obtain⟨y,E⟩:=Ma B;rw[V6]at y;simp only[Ap,AS.fg,y,AK,Y1];exact⟨trivial,(Bc.out _ _).trans E⟩
    .cases h
   .cases h
  |vw s c xs=>
   cases s with
   |old k=>cases h
   |own r p=>
    cases p with
    |none=>
     simp only[D1]at h;simp only[AK,AS.fg,Lv.D1,Jx];split at h
     .rename_i x H;rw[H];split at h
      .rename_i S2 I B;cases h;obtain⟨y,E⟩:=Ma B;rw[V6]at y;simp only[Ap,AS.fg,y,AK,U.fg];exact⟨trivial,(Bc.out _ _).trans E⟩
      .cases h
     .cases h
    |some q=>
     obtain⟨i,j⟩:=q;simp only[D1]at h;simp only[AK,AS.fg,Lv.D1,AUG];split at h
     .cases h
     .rename_i G;rw[AT G];split at h
      .rename_i S1 J;obtain⟨L,O⟩:=ALT (R:=R) J;rw[L];split at h
       .rename_i S2 I B;cases h;obtain⟨y,E⟩:=Ma B;simp only[y,AK,U.fg];exact⟨trivial,O.trans E⟩
       .cases h
      .cases h
  |_=>cases h
theorem AWP{S:St}{l}{u}(h:S.Hr l=some u):(S.fg R).Hr (AS.fg R l)=some u.fg:=by
 cases l with
 |t x=>cases h;rfl
 |al r sub=>
  grind[St.Hr,AS.fg,Lv.St.Hr,Jx,Y1]
 |vw s c xs=>cases h;rfl
 |ow x=>cases h;rfl
 |_=>cases h
theorem Uw{S:St}:∀{ls:List AS} {us:List U},S.Hk ls=some us->(S.fg R).Hk (ls.map (AS.fg R))=some (us.map U.fg)
 | [],us,h=>by cases h;rfl
 |l::ls,us,h=>by
  simp only[St.Hk]at h;split at h
  .rename_i x xs j q;cases h;simp only[AK,Lv.St.Hk,AWP j,Uw q]
  .cases h
theorem AO4{k}{l}{u}(h:QC k l=some u):Lv.QC k (AS.fg R l)=some u.fg:=by
 cases l with
 |t x=>cases h;rfl
 |vw s c xs=>
  cases s with
  |own r p=>cases h
  |old q=>
   simp only[QC]at h;simp only[AS.fg,Lv.QC];split at h
   .rename_i j;cases h;rw[AW j];rfl
   .cases h
 |_=>cases h
theorem QD{k}:∀{ls:List AS} {us:List U},F6 k ls=some us->Lv.F6 k (ls.map (AS.fg R))=some (us.map U.fg)
 | [],us,h=>by cases h;rfl
 |l::ls,us,h=>by
  simp only[F6]at h;split at h
  .rename_i x xs j q;cases h;simp only[AK,Lv.F6,AO4 j,QD q]
  .cases h
theorem Og:∀ls:List AS,Lv.Dh (ls.map (AS.fg R))=Dh ls
 | []=>rfl|l::ls=>by
  have j:=Og ls;cases l with
  |vw s c xs=>cases s with|old k=>rfl|own r p=>simpa[AS.fg,Lv.Dh,Dh] using j
  |_=>simpa[AS.fg,Lv.Dh,Dh] using j
theorem ATt k  u :AS.fg R (Eh k u)=Lv.Eh k u.fg:=by cases u<;>rfl
theorem ATp u :AS.fg R (KR u)=Lv.KR u.fg:=by cases u<;>rfl
theorem sQ s  u :AS.fg R (LN s u)=Lv.LN s u.fg:=by cases u<;>rfl
theorem Qk k(us:List U):(us.map (Eh k)).map (AS.fg R)=(us.map U.fg).map (Lv.Eh k):=by simp[Function.comp_def,ATt]
theorem aY(us:List U):(us.map KR).map (AS.fg R)=(us.map U.fg).map Lv.KR:=by simp[Function.comp_def,ATp]
theorem ng:∀ls:List AS,Lv.Pc (ls.map (AS.fg R))=Pc ls| []=>rfl|l::ls=>by simp only[AK,Lv.Pc,Pc,LV,ng ls]
theorem AMw l :Lv.R5 (AS.fg R l)=R5 l:=by
 cases l<;>try rfl
 .rename_i r sub;cases sub<;>rfl
 .rename_i s c xs;cases s with
  |own r p=>cases p<;>rfl
  |old k=>rfl
theorem AWu{S}{m}{l}{us}(h:AY9 S m l=some us):Lv.AL8 (S.fg R) l.fg=some (match m with|false=>.v .one (us.map U.fg)|true=>.p (us.map U.fg)):=by
 cases m<;>cases l<;>simp only[AY9]at h
 .cases h;rfl
 .cases h;rfl
 .cases h
 .cases h
 .cases h
 .cases h
 .cases h;rfl
 .rename_i id off;simp only[Cap.fg,Lv.AL8,PO];split at h
  .rename_i ls j;rw[j];split at h
   .rename_i q;simp only[Ap,ng,q,if_true];have:=Uw (R:=R) h;rw[Cr]at this;rw[this];rfl
   .cases h
  .cases h
theorem AAJ{S}:∀{l:List (Bool×C)} {cs:List Cap} {y:tk l},AIY S l cs=some y->Lv.fE (S.fg R) (cs.map Cap.fg)=some (Sp l y)
 | [],[],y,h=>by cases h;rfl
 |(m,c)::l,[],y,h=>by cases h
 | [],a::cs,y,h=>by cases h
 |(m,c)::l,a::cs,y,h=>by
  simp only[AIY]at h;split at h
  .rename_i us j;split at h
   .rename_i x E q B;cases h;simp only[AK,Lv.fE,AWu j,AAJ B];cases m<;>simp only[Sp,JC q]
   .cases h
  .cases h
theorem Ys{a b}(h:AOQ a b=true):a=b:=by cases a<;>cases b<;>simp[AOQ]at h<;>rfl
end
end Y
namespace Y
section
variable{R:List GF}
variable{c:C}{e:En}{xs:List CQ}{fs:List Nat}{S:St}
def Al(R:List GF)(fs:List Nat)(xs:List CQ):Prop:=∀(i:Nat) (x:CQ) (n:Nat),xs[i]?=some x->fs[i]?=some n->xr R n=x
theorem Al.of(h:fs.map (λn=>(R[n]?).map GF.x)=xs.map some):Al R fs xs:=by
 intro i x n j q;have y:=congrArg (λl=>l[i]?) h;simp only[A0,j,q,Ap]at y;unfold xr
 grind
theorem Al.nil xs :Al R [] xs:=by intro i x n _ h;simp at h
theorem Al.tail{fs:List Nat}{x:CQ}{xs:List CQ}(h:Al R fs (x::xs)):Al R fs.tail xs:=by
 intro i y n q j;cases fs with
 |nil=>simp at j|cons a fs=>exact h (i+1) y n (by simpa using q) (by simpa using j)
theorem AWD k :k.md.FP=PK.FP k:=by cases k<;>rfl
theorem tj k :k.md.writes=PK.writes k:=by cases k<;>rfl
theorem AE0:∀(ks:List PK) (es:List En),Lv.Hp (ks.map PK.md) (es.map (En.fg R))=(Hp ks es).map (AS.fg R)
 | [],es=>by cases es<;>rfl
 |k::ks,[]=>rfl|k::ks,e::es=>by
  simp only[AK,Lv.Hp,Hp,AWD,Cx,AE0 ks es];congr 1;split<;>simp[En.fg]
def bp0:En->Option Nat|⟨.one,[.bp id 0]⟩=>some id|_=>none
def AZT:Lv.Ent->Option Nat|⟨.one,[.bp id 0]⟩=>some id|_=>none
theorem AO8 e :AZT (e.fg R)=bp0 e:=by
 obtain⟨sh,cs⟩:=e;cases sh<;>try rfl
 rcases cs with _|⟨l,_|⟨j,ls⟩⟩
 .rfl
 .cases l<;>try rfl
  rename_i id off;cases off<;>rfl
 .cases l<;>try rfl
  rename_i id off;cases off<;>rfl
theorem AWp(S:St)(c:C)(ks:List PK)(e:En)(es:List En):E6 S (.b c::ks) (e::es)=match bp0 e with
 |some id=>(match get S.bx id with|some ls=>E6 (S.O7 id (ls.cs.map λ_=>.t .top)) ks es|none=>E6 S ks es)
 |none=>E6 S ks es:=by
 obtain⟨sh,cs⟩:=e;cases sh<;>try rfl
 rcases cs with _|⟨l,_|⟨j,ls⟩⟩
 .rfl
 .cases l<;>try rfl
  rename_i id off;cases off<;>rfl
 .cases l<;>try rfl
  rename_i id off;cases off<;>rfl
theorem ATn(S:Lv.St)(ms:List Md)(e:Lv.Ent)(es:List Lv.Ent):Lv.E6 S (.b::ms) (e::es)=match AZT e with
 |some id=>(match Lv.get S.bx id with|some ls=>Lv.E6 { S with bx:=Lv.put S.bx id (ls.map λ_=>.t .top)} ms es|none=>Lv.E6 S ms es)
 |none=>Lv.E6 S ms es:=by
 obtain⟨sh,cs⟩:=e;cases sh<;>try rfl
 rcases cs with _|⟨l,_|⟨j,ls⟩⟩
 .rfl
 .cases l<;>try rfl
  rename_i id off;cases off<;>rfl
 .cases l<;>try rfl
  rename_i id off;cases off<;>rfl
theorem QF:∀(ks:List PK) (S:St) (es:List En),(E6 S ks es).fg R=Lv.E6 (S.fg R) (ks.map PK.md) (es.map (En.fg R))/\Bc S (E6 S ks es)
 | [],S,es=>by cases es<;>exact⟨rfl,Bc.refl _⟩
 |k::ks,S,[]=>by exact⟨rfl,Bc.refl _⟩|k::ks,S,e::es=>by
  cases k with
  |b c=>
   rw[AWp];simp only[AK,PK.md];rw[ATn,AO8];cases bp0 e with
   |none=>dsimp only;exact QF ks S es|some id=>
    simp only[PO];cases get S.bx id with
    |none=>exact QF ks S es|some ls=>
     obtain⟨j,q⟩:=QF ks (S.O7 id (ls.cs.map λ_=>.t .top)) es;refine⟨?_,(Bc.O7 _ _ _).trans q⟩;simp only[Ap];rw[j,Uo];simp[Function.comp_def,AS.fg,U.fg]
  |_=>
   have h:=QF ks S es;simpa only[E6,Lv.E6,AK,PK.md] using h
theorem AWf{x}(h:AYw S c e=some x):Lv.Sn (S.fg R) .p (e.fg R)=some (.p (enc c x)):=by
 simp only[AYw]at h;split at h
 .rename_i id off;simp only[En.fg,AK,Ba,AS.fg,Lv.Sn,PO];split at h
  .rename_i ls j;rw[j];split at h
   .rename_i q;simp only[Ap,ng,q,if_true];split at h
    .rename_i us y;have:=Uw (R:=R) y;rw[Cr]at this;rw[this,JC h]
    .cases h
   .cases h
  .cases h
 .simp only[En.fg,AK,Ba,AS.fg,Lv.Sn,JC h]
 .cases h
theorem AWd{x}(h:AYu S c e=some x):Lv.Sn (S.fg R) .b (e.fg R)=some (.b (enc c x)):=by
 simp only[AYu]at h;split at h
 .rename_i id;simp only[En.fg,AK,Ba,AS.fg,Lv.Sn,PO];split at h
  .rename_i ls j;rw[j];split at h
   .rename_i us q;simp only[Ap,Og,QD q,JC h]
   .cases h
  .cases h
 .cases h
theorem AWe{x:CQ}{l:List (Bool×C)}{y:tk l}(hA:Al R fs (x::xs))(h:AYv S fs l e=some y):Lv.Sn (S.fg R) .v (e.fg R)=some (.f x (Sp l y)):=by
 simp only[AYv]at h;split at h
 .rename_i n caps;split at h
  .rename_i B j;split at h
   .rename_i q;subst q;have:=hA 0 x B rfl rfl;simp only[En.fg,AK,Ba,AS.fg,Lv.Sn,AAJ h,this]
   .cases h
  .cases h
 .cases h
theorem AZm{S}{e}{cs}(h:S.Hk e.cs=some cs):Lv.Sn S .v e=some (.v e.sh cs):=by
 obtain⟨sh,ls⟩:=e;have gen:(match S.Hk ls with|some cs=>some (V.v sh cs)|none=>none)=some (.v sh cs):=by dsimp only at h;rw[h]
 cases sh<;>try exact gen
 rcases ls with _|⟨l,_|⟨j,ls⟩⟩
 .exact gen
 .cases l<;>try exact gen
  simp[Lv.St.Hk,Lv.St.Hr]at h
 .cases l<;>exact gen
theorem AWg{x}(h:AYx S c e=some x)(j:e.sh=shC c):Lv.Sn (S.fg R) .v (e.fg R)=some (.v (shC c) (enc c x)):=by
 simp only[AYx]at h;split at h
 .rename_i us q;have:=AZm (e:=e.fg R) (Uw (R:=R) q);rw[this];simp only[En.fg,j,JC h]
 .cases h
theorem Ru{S}:∀{ks:List PK} {fs:List Nat} {es:List En} {us:List U} {a:A ks},Al R fs (fX ks)->Jd S fs ks es us=some a->Lv.Jd (S.fg R) (ks.map PK.md) (es.map (En.fg R)) (us.map U.fg)=some (aVs ks a)
 | [],fs,[],us,a,_,h=>by simp[Lv.Jd,aVs]| [],fs,e::es,us,a,_,h=>by simp[Jd]at h|k::ks,fs,[],us,a,_,h=>by simp[Jd]at h|k::ks,fs,e::es,us,a,hA,h=>by
  cases k with
  |o c=>
   simp only[Jd]at h;split at h
   .rename_i B;split at h
    .rename_i x y j q;cases h;have E:=Ru (show Al R fs (fX ks) from hA) q;rw[Cr]at E;simp only[AK,PK.md,Lv.Jd,En.fg,Ac,E,aVs,PK.V,JC j,DE,Ys B]
    .cases h
   .cases h
  |m c=>
   simp only[Jd]at h;split at h
   .rename_i B;split at h
    .rename_i x y j q;cases h;have E:=Ru (show Al R fs (fX ks) from hA) q;rw[Cr]at E;have G:(e.cs.map (AS.fg R)).all Lv.R5=true:=by rw[J3];simpa[Function.comp_def,AMw] using B.2.1
     simp only[AK,PK.md,Lv.Jd,En.fg,Ac,E,aVs,PK.V,JC j,DE,Ys B.1,G];rw[AW ⟨trivial,by rw[<-Ys B.1];exact B.2.2⟩]
    .cases h
   .cases h
  |f x l=>
   simp only[Jd]at h;split at h
   .rename_i y z j q;cases h;simp only[AK,PK.md,Lv.Jd,AWe hA j,Ru hA.tail q,aVs,PK.V]
   .cases h
  |v c=>
   simp only[Jd]at h;split at h
   .rename_i B;split at h
    .rename_i y z j q;cases h;simp only[AK,PK.md,Lv.Jd,AWg j (Ys B),Ru (show Al R fs (fX ks) from hA) q,aVs,PK.V]
    .cases h
   .cases h
  |p c=>
   simp only[Jd]at h;split at h
   .rename_i y z j q;cases h;simp only[AK,PK.md,Lv.Jd,AWf j,Ru (show Al R fs (fX ks) from hA) q,aVs,PK.V]
   .cases h
  |b c=>
   simp only[Jd]at h;split at h
   .rename_i y z j q;cases h;simp only[AK,PK.md,Lv.Jd,AWd j,Ru (show Al R fs (fX ks) from hA) q,aVs,PK.V]
   .cases h
theorem AO2{S':St}{ks:List PK}{es:List En}{a:A ks}(hA:Al R fs (fX ks))(h:WT S fs ks es=some (S',a)) :
 Lv.WT (S.fg R) (ks.map PK.md) (es.map (En.fg R))=some (S'.fg R,aVs ks a)/\Bc S S':=by
 unfold WT at h;unfold Lv.WT;split at h
 .rename_i S1 us j;obtain⟨q,y⟩:=Ma (R:=R) j;rw[AE0,q];split at h
  .rename_i H B;cases h;obtain⟨E,G⟩:=QF (R:=R) ks S1 es;simp only[Ru hA B,E];exact⟨trivial,y.trans G⟩
  .cases h
 .cases h
theorem mj l :Lv.names (AS.fg R l)=names l:=by
 cases l<;>try rfl
 rename_i n caps;simp only[AS.fg,Lv.names,names,List.filterMap_map];congr 1;funext c;cases c<;>rfl
theorem AOR l l' :Lv.T3 (AS.fg R l) (AS.fg R l')=T3 l l':=by
 grind[Lv.T3,T3,LV,mj,YT,aM]
theorem AOS l l' :Lv.SA (AS.fg R l) (AS.fg R l')=SA l l':=by
 grind[Lv.SA,SA,LV,mj,YT,aM]
theorem AOT e j :Lv.shares (e.fg R) (j.fg R)=shares e j:=by
 simp only[Lv.shares,shares,En.fg,Ht,Function.comp_def,AOR]
theorem AAL:∀(ks:List PK) (prev es:List En),Lv.QG (prev.map (En.fg R)) (ks.map PK.md) (es.map (En.fg R))=QG prev ks es
 | [],prev,es=>by cases es<;>rfl
 |k::ks,prev,[]=>rfl|k::ks,prev,e::es=>by
  have j:=AAL ks (e::prev) es;simp only[AK]at j ⊢;simp only[Lv.QG,QG,tj,Ht,Function.comp_def,AOT,j]
end
end Y
theorem AII{b}{y}(h:br b x y=some r):(b=true/\x=some r)\/(b=false/\y=some r):=by
 grind[AY5]
theorem Qb{γ}{p} [Decidable p]{x:Option γ}{r}(h:gd p x=some r):p/\x=some r:=by
 grind[AQE]
theorem WZ{f}(h:bd o f=some r):∃a,o=some a/\f a=some r:=ob (uF o f▸h)
theorem Yq X  i j  o  k :(Jg X i j o)[k]?=if k=i then (X[i]?).map (λrow=>row.set j o) else X[k]?:=by
 grind[Jg,List.getElem?_eq_getElem,List.getElem?_eq_none]
theorem AOO X(i j y q:Nat)(o t:T)(h:q≠j):Jg (Jg X y q t) i j o=Jg (Jg X i j o) y q t:=by
 apply Fw
 grind[Yq,List.set_comm]
theorem AOP X  i j  o t :Jg (Jg X i j t) i j o=Jg X i j o:=by
 apply Fw;intro k;simp only[Yq];by_cases q:k=i
 .subst q;simp only[if_true];cases X[k]? with|none=>rfl|some row=>simp
 .simp only[AT q]
namespace Y
section
variable{R:List GF}{ρ:Type}
theorem sI i j  o :∀(q:List (Nat×Nat)) (X:List (List T)),(∀p∈q,p.2≠j)->Jg (NY X q) i j o=NY (Jg X i j o) q
 | [],X,_=>rfl|(a,b)::q,X,h=>by
  simp only[NY];rw[sI i j o q _ (λp y=>h p (by simp[y])),AOO X i j a b o .top (h (a,b) (by simp))]
theorem AVq{c:C}{xs:List c.D}{i j:Nat}{o:U}{x y:c.D}(q:xs[i]?=some x)(h:ofC c ((cells c x).set j o)=some y):Jg (xs.map (enc c)) i j o.fg=(xs.set i y).map (enc c):=by
 have B:i<xs.length:=(AP.1 q).1;apply Fw;intro k;simp only[Yq,A0,EM];by_cases E:k=i
 .subst E;simp only[if_true,q,Ap,B,AD];rw[JC h,FY,Hu]
 grind
theorem OZ:∀{ls:List AS} {us:List U} {S:St} {K:St->Option ρ} {r:ρ},Hn S ls us K=some r ->
 ∃S',Lv.Hn (S.fg R) (ls.map (AS.fg R)) (us.map U.fg)=some (S'.fg R)/\Bc S S'/\K S'=some r
 | [],[],S,K,r,h=>⟨S,rfl,Bc.refl _,h⟩| [],u::us,S,K,r,h=>by simp[Hn]at h|l::ls,[],S,K,r,h=>by cases l<;>simp[Hn]at h
 |l::ls,o::us,S,K,r,h=>by
  cases l with
  |t x=>
   have h:Hn S ls us K=some r:=h;obtain⟨S',y,B,E⟩:=OZ h;exact⟨S',y,B,E⟩
  |al q sub=>
   cases sub with
   |some p=>simp[Hn]at h|none=>
    have h:Hn (S.Bi q (.ow o)) ls us K=some r:=h;obtain⟨S',y,B,E⟩:=OZ h;refine⟨S',?_,(Bc.Bi _ _ _).trans B,E⟩;rw[GQ]at y;exact y
  |vw s c xs=>
   cases s with
   |old k=>simp[Hn]at h|own q p=>
    cases p with
    |none=>simp[Hn]at h|some p=>
     obtain⟨i,j⟩:=p;simp only[Hn]at h;split at h
     .rename_i c' rows i' Z H I;split at h
      .rename_i Q;obtain⟨rfl,G⟩:=Q;obtain⟨rfl,h⟩:=Qb h;obtain⟨x,Y,h⟩:=WZ h;split at h
       .rename_i x' L;obtain⟨S',y,B,E⟩:=OZ h;refine⟨S',?_,((Bc.Bi _ _ _).trans (Bc.kill _ _)).trans B,E⟩;have J:∀p∈H,p.2≠Z:=by
         intro p X;have:=List.all_eq_true.1 G p X;intro O;simp[O]at this
        simp only[AK,AS.fg,Lv.Hn,Jx,I,Ap];rw[<-LM (Rz q),GQ]at y;rw[<-y];congr 3;simp only[NY];rw[sI _ _ _ H _ J,AOP,AVq Y L];cases H with
        |nil=>simp only[AS.fg,U.fg,NY]|cons p H=>simp only[AS.fg]
       .cases h
      .cases h
     .cases h
  |_=>simp[Hn]at h
theorem AXX(S0 S:Lv.St)(ms:List Md)(e:Lv.Ent)(es:List Lv.Ent)(outs:List (List T)):Lv.F5 S0 S (.b::ms) (e::es) outs=match AZT e,outs with
 |some id,o::outs=>(match Lv.get S0.bx id,Lv.get S.bx id with
  |some ls,some j=>if o.length=j.length then Lv.F5 S0 { S with bx:=Lv.put S.bx id (o.map (Lv.Eh (Lv.Dh ls)))} ms es outs else none
  |_,_=>none)
 |_,_=>none:=by
 obtain⟨sh,cs⟩:=e;cases sh<;>try rfl
 rcases cs with _|⟨l,_|⟨q,ls⟩⟩
 .rfl
 .cases l<;>try rfl
  rename_i id off;cases off<;>cases outs<;>rfl
 .cases l<;>try rfl
  rename_i id off;cases off<;>rfl
theorem AY1{S0 S:St}{c:C}{ks:List PK}{e:En}{es:List En}{outs:List (List U)}{K:St->Option ρ}:F5 S0 S (.b c::ks) (e::es) outs K=match bp0 e,outs with
 |some id,o::outs=>(match get S0.bx id,get S.bx id with
  |some ls,some j=>if o.length=j.cs.length then F5 S0 (S.O7 id (o.map (Eh (Dh ls.cs)))) ks es outs K else none|_,_=>none)
 |_,_=>none:=by
 obtain⟨sh,cs⟩:=e;cases sh<;>try rfl
 rcases cs with _|⟨l,_|⟨q,ls⟩⟩
 .rfl
 .cases l<;>try rfl
  rename_i id off;cases off<;>cases outs<;>rfl
 .cases l<;>try rfl
  rename_i id off;cases off<;>rfl
theorem OL{S0}:∀{ks:List PK} {es:List En} {outs:List (List U)} {S:St} {K:St->Option ρ} {r:ρ},F5 S0 S ks es outs K=some r ->
 ∃S',Lv.F5 (S0.fg R) (S.fg R) (ks.map PK.md) (es.map (En.fg R)) (outs.map λo=>o.map U.fg)=some (S'.fg R)/\Bc S S'/\K S'=some r
 | [],es,[],S,K,r,h=>by
  refine⟨S,?_,Bc.refl _,?_⟩
  .cases es<;>rfl
  .cases es<;>exact h
 | [],es,o::outs,S,K,r,h=>by cases es<;>simp[F5]at h
 |k::ks,[],outs,S,K,r,h=>by cases outs<;>simp[F5]at h
 |k::ks,e::es,outs,S,K,r,h=>by
  cases k with
  |b c=>
   rw[AY1]at h;simp only[AK,PK.md];rw[AXX,AO8];split at h
   .rename_i id o outs' J;rw[J];simp only[AK,PO];split at h
    .rename_i ls O L E;rw[L,E];split at h
     .rename_i B;obtain⟨S',j,q,y⟩:=OL h;refine⟨S',?_,(Bc.O7 _ _ _).trans q,y⟩;simp only[Ap,Ac,B,if_true];rw[Uo,Qk]at j;rw[Og];exact j
     .cases h
    .cases h
   .cases h
  |m c=>
   cases outs with
   |nil=>simp[F5]at h|cons o outs=>
    have h:Hn S e.cs o (λS'=>F5 S0 S' ks es outs K)=some r:=h;obtain⟨S1,j,q,y⟩:=OZ (R:=R) h;obtain⟨S',G,H,I⟩:=OL y;refine⟨S',?_,q.trans H,I⟩;simp only[AK,PK.md,Lv.F5,En.fg,j];exact G
  |v c=>
   have h:F5 S0 S ks es outs K=some r:=by cases outs<;>exact h
   obtain⟨S',j,q,y⟩:=OL h;refine⟨S',?_,q,y⟩;cases outs<;>exact j
  |p c=>
   have h:F5 S0 S ks es outs K=some r:=by cases outs<;>exact h
   obtain⟨S',j,q,y⟩:=OL h;refine⟨S',?_,q,y⟩;cases outs<;>exact j
  |o c=>
   have h:F5 S0 S ks es outs K=some r:=by cases outs<;>exact h
   obtain⟨S',j,q,y⟩:=OL h;refine⟨S',?_,q,y⟩;cases outs<;>exact j
  |f x l=>
   have h:F5 S0 S ks es outs K=some r:=by cases outs<;>exact h
   obtain⟨S',j,q,y⟩:=OL h;refine⟨S',?_,q,y⟩;cases outs<;>exact j
theorem ml{S}{d}{ls}{K:St->Option ρ}{r}(h:Qm S d ls K=some r):∃S',Lv.Qm (S.fg R) d (ls.map (AS.fg R))=some (S'.fg R)/\Bc S S'/\K S'=some r:=by
 unfold Qm at h;split at h
 .cases h
 .rename_i j;have q:d∉(S.fg R).pin:=OA.1 j;refine⟨_,?_,((Bc.kill _ _).trans (Bc.Kl _ _ _ _)).trans (Bc.O7 _ _ _),h⟩;unfold Lv.Qm;rw[AT q,Uo,Mb,<-LM (q':=λl=>Lv.FO d l||Lv.GA d l) (λl=>by rw[YU,YT])];rfl
theorem AXW{S}{e}{k}(h:mU S e=some k):Lv.mU (S.fg R) (e.fg R)=some k:=by
 have gen:∀(cs:List AS),(if (F6 (Dh cs) cs).isSome=true then some (Dh cs) else none)=some k->(if (Lv.F6 (Lv.Dh (cs.map (AS.fg R))) (cs.map (AS.fg R))).isSome=true then some (Lv.Dh (cs.map (AS.fg R))) else none)=some k:=by
  intro cs h;rw[Og];cases q:F6 (Dh cs) cs with
  |none=>rw[q]at h;simp at h|some us=>rw[QD q];rw[q]at h;simpa using h
 obtain⟨sh,cs⟩:=e;cases sh<;>try exact gen cs h
 rcases cs with _|⟨l,_|⟨y,ls⟩⟩
 .exact gen [] h
 .have j:=gen [l];cases l with
  |bp id off=>
   grind[mU,En.fg,AS.fg,Lv.mU,PO]
  |_=>exact j h
 .have j:=gen (l::y::ls);cases l<;>exact j h
theorem ALF{g:GF}{S0}{es}{k lab}(h:mV g.ps S0 es k=some lab):Lv.mV g.x (S0.fg R) (es.map (En.fg R)) k=some lab:=by
 unfold mV at h;unfold Lv.mV;rw[g.ms];simp only[A0];split at h
 .rename_i e B;rw[B];simp only[Ap];split at h
  .cases h
  .rename_i E;rw[AT]
   .exact AXW h
   .intro j;cases y:g.ps[k]? with
    |none=>rw[y]at j;simp at j|some q=>rw[y]at j;cases q<;>simp[PK.md]at j;exact E _ y
 .cases h
theorem lM:∀(cs:List C) (x:Tu cs),RR cs x=(Sq cs x).map λl=>l.map U.fg| [],_=>rfl| [c],x=>congrArg (λz=>[z]) (FY c x)|c::j::cs,x=>by simp only[RR,Sq,AK,FY,lM (j::cs) x.2]
theorem AXk{d:Nat}{g:GF}{es:List En}{S0 S:St}{x}{K:St->Option ρ}{r:ρ}(h:post d g es S0 S x K=some r) :
 ∃S',Lv.post d g.x (es.map (En.fg R)) (S0.fg R) (S.fg R) g.rk.sh ((RR _ x).take g.rk.cs.length).flatten ((RR _ x).drop g.rk.cs.length)=some (S'.fg R)/\Bc S S'/\K S'=some r:=by
 unfold post at h;obtain⟨S1,J,G,j⟩:=OL (R:=R) h;unfold Lv.post;rw[g.ms,lM,<-Cr,J,<-DE,<-Kq];generalize ((Sq (g.rk.cs++MN g.ps) x).take g.rk.cs.length).flatten=us at j;dsimp only;cases I:g.rk with
 |ptr k c=>
  rw[I]at j;simp only[RK.sh];dsimp only at j;split at j
  .rename_i lab H;rw[ALF H];obtain⟨S2,q,y,B⟩:=ml (R:=R) j;rw[Qk]at q;exact⟨S2,q,G.trans y,B⟩
  .cases j
 |vw k c=>
  rw[I]at j;simp only[RK.sh];dsimp only at j;split at j
  .rename_i lab H;rw[ALF H];obtain⟨S2,q,y,B⟩:=eO (R:=R) j;rw[Qk]at q;exact⟨S2,q,G.trans y,B⟩
  .cases j
 |ret cs=>
  rw[I]at j;dsimp only at j;obtain⟨S2,q,y,B⟩:=eO (R:=R) j;rw[aY]at q;refine⟨S2,?_,G.trans y,B⟩;simp only[RK.sh];cases E:AEm (cs.map wC) with
  |ptr k=>exfalso;revert E;unfold AEm;split<;>simp|vw k=>exfalso;revert E;unfold AEm;split<;>simp|one=>rw[E]at q;exact q|agg=>rw[E]at q;exact q|tup ns=>rw[E]at q;exact q
theorem AAG{d:Nat}{g:GF}{fs:List Nat}{es:List En}{S:St}{K:St->Option ρ}{r:ρ}(hA:Al R fs (fX g.ps))(h:AIX d g fs es S K=some r) :
 ∃S1 vs cs outs S',Lv.pre g.x (es.map (En.fg R)) (S.fg R)=some (S1,vs)/\KG g.x vs g.rk.sh cs outs/\Lv.post d g.x (es.map (En.fg R)) (S.fg R) S1 g.rk.sh cs outs=some (S'.fg R)/\Bc S S'/\K S'=some r:=by
 unfold AIX at h;split at h
 .cases h
 .rename_i H;split at h
  .rename_i S1 a j;obtain⟨x,I,h⟩:=WZ h;obtain⟨q,y⟩:=AO2 hA j;obtain⟨S',B,E,G⟩:=AXk (R:=R) h;refine⟨_,_,_,_,S',?_,g.ok a x I,B,y.trans E,G⟩;unfold Lv.pre;rw[g.ms];have:=AAL (R:=R) g.ps [] es;rw[Ba]at this;rw[this,H,AT (by decide),q]
  .cases h
end
end Y
namespace Y
section
variable{R:List GF}{ρ:Type}
variable{l:AS}{op:BinOp}{cst:Bool}{c:C}{a b:Int}{k:IntKind}{ys:List c.D}{S:St}{K:U->Option ρ}
theorem E7{x}(h:S.one x=some l):(S.fg R).one (x.er R)=some (AS.fg R l):=by
 unfold St.one at h;split at h
 .rename_i l' j;cases h;simp only[Lv.St.one,Lu j,En.fg,AK,Ba]
 .cases h
theorem Pb{x}{u}(h:S.sc x=some u):(S.fg R).sc (x.er R)=some u.fg:=by
 unfold St.sc AHt at h;split at h
 .rename_i o l' j;cases h;simp only[Lv.St.sc,Lu j,En.fg,AK,Ba,AS.fg,Lv.AHt]
 .cases h
theorem Tp{x}{n}(h:S.nat x=some n):(S.fg R).nat (x.er R)=some n:=by
 unfold St.nat at h;split at h
 .rename_i u j;simp only[Lv.St.nat,Pb j];cases u<;>simp[Aal]at h<;>subst h<;>rfl
 .cases h
theorem AZK{k}{a b}{c}(h:eqU k a b=some c):eqT k a.fg b.fg=some c:=by
 cases k<;>cases a<;>cases b<;>simp only[eqU]at h<;>first|cases h;done|exact h
theorem AKp:∀{ks:List Kd} {as j:List U} {c:Bool},ADP ks as j=some c->Sf ks (as.map U.fg) (j.map U.fg)=some c
 | [],[],[],c,h=>h| [],[],b::j,c,h=>by simp[ADP]at h| [],a::as,j,c,h=>by cases j<;>simp[ADP]at h
 |k::ks,[],j,c,h=>by cases j<;>simp[ADP]at h
 |k::ks,a::as,[],c,h=>by simp[ADP]at h|k::ks,a::as,b::j,c,h=>by
  simp only[ADP]at h;split at h
  .rename_i x y q B;cases h;simp only[AK,Sf,AZK q,AKp B]
  .cases h
theorem zO:∀{ls:List AS} {us:List U},WM ls=some us->Lv.WM (ls.map (AS.fg R))=some (us.map U.fg)
 | [],us,h=>by cases h;rfl
 |l::ls,us,h=>by
  cases l with
  |t x=>
   simp only[WM]at h;split at h
   .rename_i q j;cases h;simp only[AK,AS.fg,Lv.WM,zO j,Ap]
   .cases h
  |_=>simp[WM]at h
theorem AQF{cst}{p} [Decidable p]{x:Option ρ}{r}(h:gdc cst p x=some r):p/\x=some r:=by
 cases cst with
 |true=>simp only[gdc]at h;split at h<;>simp_all|false=>exact Qb h
theorem AXP{r}(h:AZQ cst op k a b K=some r):∃u,cL op k a b=some (U.fg u)/\K u=some r:=by
 cases op<;>simp only[AZQ]at h<;>first
  |exact⟨_,rfl,h⟩|(obtain⟨j,h⟩:=AQF h;exact⟨_,by simp only[cL];rw[AT j];rfl,h⟩)
  |cases h
theorem AVu{r}(h:shU cst op k a b K=some r):∃u,AHu op k a b=some (U.fg u)/\K u=some r:=by
 cases op<;>simp only[shU]at h<;>first
  |cases h;done
  |(obtain⟨j,h⟩:=AQF h;exact⟨_,by simp only[AHu];rw[AT j];rfl,h⟩)
theorem AWG n :(U.u8 (toB n)).fg=.int .u8 (IntKind.u8.wrap n):=by simp only[U.fg,AOj]
theorem AY7{r}(h:byU op a b K=some r):∃u,cL op .u8 a b=some (U.fg u)/\K u=some r/\AXS op=false:=by
 cases op<;>simp only[byU]at h<;>first
  |cases h;done
  |exact⟨_,by rw[AWG];rfl,h,rfl⟩|exact⟨_,rfl,h,rfl⟩
theorem uG{j}:fB op (.int k a) (.int j b)=if AXS op=true then AHu op k a b else if k=j then cL op k a b else none:=by
 cases op<;>rfl
theorem AWm{x y}{r}(h:AY2 cst op x y K=some r):∃u,fB op x.fg y.fg=some (U.fg u)/\K u=some r:=by
 unfold AY2 at h;split at h
 .rename_i k a E b;split at h
  .rename_i B;obtain⟨u,j,q⟩:=AVu h;exact⟨u,by show fB op (.int k a) (.int E b)=_;rw[uG,AW B];exact j,q⟩
  .rename_i B;split at h
   .rename_i H;split at h
    .cases h
    .obtain⟨u,j,q⟩:=AXP h;exact⟨u,by show fB op (.int k a) (.int E b)=_;rw[uG,AT B,AW H];exact j,q⟩
   .cases h
 .rename_i k a b;split at h
  .rename_i B;obtain⟨u,j,q⟩:=AVu h;exact⟨u,by show fB op (.int k a) (.int .u8 b.toNat)=_;rw[uG,AW B];exact j,q⟩
  .cases h
 .rename_i a b;obtain⟨u,j,q,G⟩:=AY7 h;exact⟨u,by show fB op (.int .u8 a.toNat) (.int .u8 b.toNat)=_;rw[uG,AT (by simp[G]),AW rfl];exact j,q⟩
 .rename_i a b;split at h
  .obtain⟨j,h⟩:=Qb h;exact⟨_,by show (if a.length+b.length<=P0 then some (T.str (a++b)) else none)=some (U.fg (.str (a++b)));rw[AW j];rfl,h⟩
  .exact⟨_,rfl,h⟩
  .exact⟨_,rfl,h⟩
  .cases h
 .cases h
theorem AFY{b}{r}(h:eqK op b K=some r):∃u,o7 op b=some (U.fg u)/\K u=some r:=by
 cases op<;>simp only[eqK]at h<;>first
  |cases h;done
  |exact⟨_,rfl,h⟩
theorem cP{α β:Type}{f:α->β}{xs:List α}(h:xs.isEmpty=false):∃y ys,xs.map f=y::ys:=by
 cases xs with
 |nil=>simp at h|cons x xs=>exact⟨_,_,rfl⟩
theorem AXb{K}{r:ρ}(h:S.V3 l K=some r):∃b,(S.fg R).V3 (AS.fg R l)=some b/\K b=some r:=by
 unfold St.V3 at h;split at h
 .exact⟨true,rfl,h⟩
 .rename_i s c xs;obtain⟨j,h⟩:=Qb h;obtain⟨y,ys,E⟩:=cP (f:=enc c) j;exact⟨false,by simp only[AS.fg,E,Lv.St.V3],h⟩
 .rename_i q;simp only[AS.fg,Lv.St.V3,Jx];split at h
  .rename_i B;rw[B];exact⟨true,rfl,h⟩
  .rename_i c xs B;rw[B];obtain⟨j,h⟩:=Qb h;obtain⟨y,ys,E⟩:=cP (f:=enc c) j;exact⟨false,by simp only[Ap,AS.fg,U.fg,E],h⟩
  .cases h
 .cases h
theorem AY3{c}{x y}{r}(h:S.bin cst c op x y K=some r):∃u,(S.fg R).bin c op (x.fg R) (y.fg R)=some (U.fg u)/\K u=some r:=by
 unfold St.bin at h;split at h
 .split at h
  .exact AWm h
  .cases h
 .split at h
  .exact AFY h
  .cases h
 .split at h
  .obtain⟨b,j,q⟩:=AXb (R:=R) h;obtain⟨u,B,E⟩:=AFY q;rename_i l;exact⟨u,by show (match (S.fg R).V3 (AS.fg R l) with|some b=>o7 op b|none=>none)=_;rw[j];exact B,E⟩
  .cases h
 .split at h
  .split at h
   .rename_i G H j q;split at h
    .rename_i b I;obtain⟨u,B,E⟩:=AFY h;refine⟨u,?_,E⟩;simp only[En.fg,Lv.St.bin,zO j,zO q,AKp I,B]
    .cases h
   .cases h
  .cases h
theorem AaA{op}{x}{r}(h:unU op x K=some r):∃u,unT op x.fg=some (U.fg u)/\K u=some r:=by
 unfold unU at h;split at h
 .cases op<;>simp only at h<;>first|cases h;done|exact⟨_,rfl,h⟩
 .cases op<;>simp only at h<;>first|cases h;done|(split at h;cases h;exact⟨_,rfl,h⟩)
 .cases h
theorem ATx k  n :(mkInt k n).fg=.int k (k.wrap n):=by cases k<;>simp only[mkInt,AWG]<;>rfl
theorem AMU:∀(n:Nat) (x:tD n),VD (.st n)=true->(AaT n x).all flat=true|0,x,_=>rfl|1,x,h=>absurd h (by decide)|2,x,_=>rfl|3,x,_=>rfl|4,x,_=>rfl|5,x,_=>rfl|6,x,h=>absurd h (by decide)|7,x,h=>absurd h (by decide)|8,x,h=>absurd h (by decide)|9,x,_=>rfl|10,x,_=>rfl|11,x,h=>absurd h (by decide)|12,x,h=>absurd h (by decide)|13,x,h=>absurd h (by decide)|14,x,h=>absurd h (by decide)|15,x,_=>rfl|16,x,h=>absurd h (by decide)|17,x,h=>absurd h (by decide)|_+18,x,_=>rfl
theorem AMT{c}(h:VD c=true) x :(enc c x).all flat=true:=by
 cases c with
 |l c=>cases h
 |m=>cases h
 |st n=>exact AMU n x h|un n=>cases h
 |_=>rfl
theorem JZ(h:VD c=true)(xs:List c.D):HF (xs.map (enc c))=true:=by
 grind[HF,List.all_map,List.all_eq_true,AMT]
theorem AX5{fl:Bool}{S':St}(h:P5 c fl S l=some (S',ys)):Lv.P5 c.size fl (S.fg R) (AS.fg R l)=some (S'.fg R,ys.map (enc c))/\Bc S S':=by
 unfold P5 at h;split at h
 .rename_i s;split at h
  .rename_i xs j;cases h;have y:C.u=c:=by
    simp only[Rw.as]at j;split at j
    .rename_i y;exact y
    .cases j
   subst y;have:=eZ j;simp only[AS.fg,U.fg,Lv.P5,C.size,if_true,<-this,Rw.fg];exact⟨rfl,Bc.refl _⟩
  .cases h
 .cases h;exact⟨rfl,Bc.refl _⟩
 .rename_i s J xs;split at h
  .rename_i G;split at h
   .rename_i I j;cases h;have y:J=c:=by
     simp only[Rw.as]at j;split at j
     .rename_i y;exact y
     .cases j
    subst y;have:=eZ j;simp only[AS.fg,Lv.P5,JZ G,and_self,if_true,<-this,Rw.fg];exact⟨trivial,Bc.refl _⟩
   .cases h
  .cases h
 .rename_i q sub;simp only[AS.fg,Lv.P5,Jx];split at h
  .rename_i x j;rw[j];split at h
   .rename_i w H;split at h
    .rename_i I E;have L:eOf c.size x.fg=true:=by
      cases x<;>simp[content]at H<;>subst H<;>simp only[U.fg,eOf];simp only[Rw.sub,Rw.as]at E;split at E
      .rename_i y;subst y;simp
      .cases E
     have B:=eZ E;rw[AV6]at B;simp only[Ap,AS.fg,Ve H,L,if_true,B];cases fl with
     |true=>
      simp only[if_true]at h ⊢;split at h
      .rename_i G;cases h;rw[AW (JZ G _)];exact⟨rfl,Bc.refl _⟩
      .cases h
     |false=>
      simp only[BJ,if_false]at h ⊢;cases h;rw[V6];exact⟨rfl,Bc.out _ _⟩
    .cases h
   .cases h
  .cases h
 .cases h
theorem AQG{e}{x:Option ρ}{r:ρ}(h:gdo e x=some r):(∀a b,e=some (a,b)->a=b)/\x=some r:=by
 cases e with
 |none=>exact⟨by intros;contradiction,h⟩
 |some p=>
  obtain⟨a,b⟩:=p;obtain⟨j,q⟩:=Qb h
  grind
theorem zy{S':St}{b:U}{n:Nat}{e:Option (Nat×Nat)}(h:SU c S l=some (S',b,n,e))(Q:∀a b,e=some (a,b)->a=b):Lv.SU c.size (S.fg R) (AS.fg R l)=some (S'.fg R,b.fg,n)/\Bc S S':=by
 unfold SU at h;split at h
 .cases h;exact⟨rfl,Bc.refl _⟩
 .rename_i q sub;simp only[AS.fg,Lv.SU,Jx];split at h
  .rename_i x X;rw[X];split at h
   .rename_i w H;split at h
    .rename_i ys y;cases h;have E:eOf c.size x.fg=true:=by
      cases x<;>simp[content]at H<;>subst H<;>simp only[U.fg,eOf];simp only[Rw.as]at y;split at y
      .rename_i B;subst B;simp
      .cases y
     have I:=eZ y;have G:toEnd sub (ys.map (enc c)).length=true:=by
      cases sub with
      |none=>rfl|some p=>
       obtain⟨lo,m⟩:=p;have:=Q _ _ rfl;simp[toEnd,this]
     simp only[Ap,AS.fg,Ve H,I];rw[AW ⟨E,G⟩,V6,Y1];refine⟨?_,Bc.out _ _⟩;rw[zM,<-bE,Ac]
    .cases h
   .cases h
  .cases h
 .rename_i q i j Y xs;split at h
  .rename_i B;subst B;split at h
   .rename_i S1 J;cases h;obtain⟨L,O⟩:=ALT (R:=R) J;simp only[AS.fg,Lv.SU,if_true,L,U.fg,Ac];exact⟨trivial,O⟩
   .cases h
  .cases h
 .cases h
theorem AID{b u}(h:AWb c b ys=some u):u.fg=AL3 c.size b.fg (ys.map (enc c)):=by
 unfold AWb at h;split at h
 .grind[U.fg,AL3]
 .rename_i j;cases h;cases b<;>simp only[U.fg,AL3];exact(j _ _ rfl).elim
end
end Y
theorem O0{α β}(f:α->β):∀(cs ls:List α) (o:Nat),EC (ls.map f) o (cs.map f)=(EC ls o cs).map f
 | [],ls,o=>by cases ls<;>rfl
 |c::cs,ls,o=>by
  simp only[AK,EC];rw[<-Hu,O0 f cs]
theorem nh{α} t :∀(cs ls:List α) (o b:Nat),o<=b->b<o+cs.length->EC (ls.set b t) o cs=EC ls o cs
 | [],ls,o,b,q,j=>by simp at j;omega|c::cs,ls,o,b,q,j=>by
  simp only[EC];by_cases h:b=o
  .subst h;rw[List.set_set]
  .rw[List.set_comm _ _ h];exact nh t cs _ _ _ (by omega) (by simp at j;omega)
namespace Y
section
variable{R:List GF}{ρ:Type}
theorem sP(r:CL)(i:Nat):∀(j:Nat) (us:List U),(KD r i j us).map (AS.fg R)=Lv.KD r i j (us.map U.fg)|_,[]=>rfl|j,u::us=>by simp only[KD,AK,Lv.KD,sQ,sP r i (j+1) us]
theorem uD{c}{xs}{i}{x}(h:at? xs i=some x):(xs.map (enc c))[i.toNat]?=some (enc c x):=AY0 (enc c) h
theorem PW{S:St}{n}{l}{K:List AS->Option ρ}{r}(h:S.load n l K=some r):∃ls,(S.fg R).load n (AS.fg R l)=some (ls.map (AS.fg R))/\K ls=some r:=by
 unfold St.load at h;split at h
 .grind[AS.fg,Lv.St.load,PO,List.length_map,AIB,List.map_take,List.map_drop]
 .rename_i q i j;simp only[AS.fg,Lv.St.load,Jx];split at h
  .rename_i c xs G;rw[G];obtain⟨x,B,h⟩:=WZ h;split at h
   .rename_i y;refine⟨_,?_,h⟩;have E:=uD B;simp only[Ap,AS.fg,U.fg,E,FY,Ac,y,if_true,sP,DE,Cr]
   .cases h
  .cases h
 .rename_i s cs;split at h
  .rename_i y;refine⟨_,?_,h⟩;simp only[AS.fg,Lv.St.load,Ac,y,if_true,AD];rw[<-DE,DP,DP];congr 1;funext u;exact(sQ _ _).symm
  .cases h
 .cases h
theorem UI:∀ls:List AS,Lv.IU (ls.map (AS.fg R))=IU ls
 | []=>rfl|l::ls=>by
  have j:=UI ls;cases l with
  |t x=>cases x<;>first|rfl|exact j
  |und=>rfl|_=>exact j
theorem nB b o n  l :Lv.Ie b o n (AS.fg R l)=Ie b o n l:=by
 grind[Lv.Ie,Ie,LV,RM,Nat.ble,Nat.le_of_ble_eq_true,decide_eq_false_iff_not,Nat.ble_eq_true_of_le,Nat.blt]
def AE6:List T->List (Nat×Nat)->List T|row,[]=>row|row,(_,b)::hs=>AE6 (row.set b .top) hs
theorem AE8:∀(j:List (Nat×Nat)) (row:List T),(AE6 row j).length=row.length| [],row=>rfl|(a,b)::j,row=>by simp only[AE6,AE8 j,List.length_set]
theorem aD i :∀(j:List (Nat×Nat)) (X:List (List T)) (k:Nat),(∀p∈j,p.1=i)->(NY X j)[k]?=if k=i then (X[i]?).map (λrow=>AE6 row j) else X[k]?
 | [],X,k,h=>by
  grind[NY,AE6]
 |(a,b)::j,X,k,h=>by
  have q:a=i:=h (a,b) (by simp);subst q;simp only[NY];rw[aD a j _ k (λp y=>h p (by simp[y]))];simp only[Yq,if_true];split
  .cases X[a]? <;> rfl
  .rfl
theorem cg j  ts :∀(q:List (Nat×Nat)) (row:List T),(∀p∈q,j<=p.2/\p.2<j+ts.length)->EC (AE6 row q) j ts=EC row j ts
 | [],row,h=>rfl|(a,b)::q,row,h=>by
  simp only[AE6];rw[cg j ts q _ (λp y=>h p (by simp[y]))];have:=h (a,b) (by simp);exact nh _ _ _ _ _ this.1 this.2
theorem mD{i j n}:∀{q:List (Nat×Nat)},Pr i j n q->(∀p∈q,p.1=i)/\(∀p∈q,j<=p.2/\p.2<j+n)
 | [],_=>⟨by simp,by simp⟩|(a,b)::q,h=>by
  obtain⟨B,E,y⟩:=h;obtain⟨G,H⟩:=mD y
  grind
theorem AWA{n:Nat}{ls:List AS}{S S':St}{ls':List AS}(h:Y2 n S ls=some (S',ls')):Lv.Y2 n (S.fg R) (ls.map (AS.fg R))=some (S'.fg R,ls'.map (AS.fg R))/\Bc S S':=by
 grind[Y2,Lv.Y2,Nat.blt_eq,Q4,Bc.refl]
theorem AOe{S}{n}{p}{cs}{K:St->Option ρ}{r}(h:S.SJ n p cs K=some r) :
 ∃S',(S.fg R).SJ n (AS.fg R p) (cs.map (AS.fg R))=some (S'.fg R)/\Bc S S'/\K S'=some r:=by
 unfold St.SJ at h;split at h
 .rename_i id o;split at h
  .rename_i S1 E X;obtain⟨Y,J⟩:=AWA (R:=R) X;split at h
   .cases h
   .rename_i ht;dsimp only at h;split at h
    .rename_i ls hl;split at h
     .rename_i y;refine⟨_,?_,(J.trans (Bc.kill _ _)).trans (Bc.O7 _ _ _),h⟩;simp only[AS.fg,Lv.St.SJ,Y,UI,ht,BJ,if_false,Ac];rw[LM (nB id o E.length),PO,hl];simp only[Ap,Ac,y,if_true];rw[Uo,Mu (nB id o E.length),O0]
     .cases h
    .cases h
  .cases h
 .rename_i q i j;split at h
  .rename_i S1 us X;obtain⟨Y,J⟩:=Ma (R:=R) X;simp only[AS.fg,Lv.St.SJ,Y,Jx];split at h
   .rename_i c xs hx;rw[hx];obtain⟨x,L,h⟩:=WZ h;split at h
    .rename_i y;split at h
     .rename_i x' B;refine⟨_,?_,(J.trans (Bc.Bi _ _ _)).trans (Bc.kill _ _),h⟩;have Z:=uD L;simp only[Ap,AS.fg,U.fg,Z,FY,Ac,y,if_true,AD];rw[<-LM (Rz q),GQ];congr 2;simp only[AS.fg,U.fg];rw[Hu,JC B,O0]
     .cases h
    .cases h
   .rename_i c xs I hx;rw[hx];obtain⟨x,L,h⟩:=WZ h;split at h
    .rename_i y;split at h
     .rename_i x' B;obtain⟨hh,h⟩:=@Qb _ _ (eF i.toNat j us.length I) _ _ h;obtain⟨hr,G⟩:=mD hh;refine⟨_,?_,(J.trans (Bc.Bi _ _ _)).trans (Bc.kill _ _),h⟩;have Z:=uD L;have O:=aD i.toNat I (xs.map (enc c)) i.toNat hr;rw[AW rfl,Z]at O;simp only[Ap]at O;simp only[Ap,AS.fg,O,AE8,PM];have hl2:j+(us.map U.fg).length<=c.size:=by rw[Ac,<-ZJ c x];exact y
      rw[AW hl2,<-LM (Rz q),GQ];congr 3;simp only[AS.fg,U.fg];have h7:EC (AE6 (enc c x) I) j (us.map U.fg)=enc c x':=by
       rw[cg _ _ _ _ (by rw[Ac];exact G),JC B,FY,O0]
      rw[h7];congr 1;congr 1;apply Fw;intro k;have hlt:i.toNat<xs.length:=(QB L).2.2.1;have H:i.toNat<(NY (xs.map (enc c)) I).length:=(AP.1 O).1;rw[EM,A0,EM];by_cases Q:i.toNat=k
      .subst Q;simp only[if_true,hlt,H,Ap]
      .rw[AT Q,AT Q,aD i.toNat I _ k hr,AT (λh=>Q h.symm),A0]
     .cases h
    .cases h
   .cases h
  .cases h
 .cases h
def erP(R:List GF)(p:Nat×Nat×YO):Nat×Nat×Opd:=(p.1,p.2.1,p.2.2.er R)
theorem pd{S}:∀{ps:List (Nat×Nat×YO)} {ls ls':List AS},M7 S ls ps=some ls'->Lv.M7 (S.fg R) (ls.map (AS.fg R)) (ps.map (erP R))=some (ls'.map (AS.fg R))
 | [],ls,ls',h=>by cases h;rfl
 |(o,n,x)::ps,ls,ls',h=>by
  simp only[M7]at h;split at h
  .rename_i e q;split at h
   .rename_i j;have:=pd (ps:=ps) h;simp only[AK,erP,Lv.M7,Lu q,En.fg,Ac,UI];rw[AW j,O0];exact this
   .cases h
  .cases h
def erQ(R:List GF)(p:Nat×YO):Nat×Opd:=(p.1,p.2.er R)
theorem AO9{c}{n}:∀{ps:List (Nat×YO)} {S S':St} {xs j:List c.D},bsK c n S xs ps=some (S',j) ->
 Lv.bsK c.size n (S.fg R) (xs.map (enc c)) (ps.map (erQ R))=some (S'.fg R,j.map (enc c))/\Bc S S'
 | [],S,S',xs,j,h=>by cases h;exact⟨rfl,Bc.refl _⟩
 |(i,x)::ps,S,S',xs,j,h=>by
  simp only[bsK]at h;split at h
  .rename_i e J;split at h
   .rename_i I;split at h
    .rename_i S1 us q;obtain⟨B,E⟩:=Ma (R:=R) q;split at h
     .rename_i y L;obtain⟨G,H⟩:=AO9 (ps:=ps) h;simp only[AK,erQ,Lv.bsK,Lu J,En.fg,Ac];rw[AW I,B];dsimp only;rw[<-JC L,<-Hu];exact⟨G,E.trans H⟩
     .cases h
    .cases h
   .cases h
  .cases h
theorem APA{c}{n}{z}:∀{ps:List (Nat×YO)} {S S':St} {ys:List c.D} (pre:List (List T)),bsL c n S ps=some (S',ys)->ADm pre.length n ps=true->pre.length<=n ->
 Lv.bsK c.size n (S.fg R) (pre++List.replicate (n-pre.length) z) (ps.map (erQ R))=some (S'.fg R,pre++ys.map (enc c))/\Bc S S'
 | [],S,S',ys,pre,h,j,Q=>by
  cases h;simp only[ADm,beq_iff_eq]at j;simp only[Ba,Lv.bsK,j,Ek,List.replicate_zero];exact⟨trivial,Bc.refl _⟩
 |(i,x)::ps,S,S',ys,pre,h,j,Q=>by
  simp only[ADm,AF,beq_iff_eq]at j;obtain⟨rfl,j⟩:=j;simp only[bsL]at h;split at h
  .rename_i e O;split at h
   .rename_i L;split at h
    .rename_i S1 us B;obtain⟨E,G⟩:=Ma (R:=R) B;split at h
     .rename_i y S2 Z Y J;cases h;have q:(pre++[enc c y]).length=pre.length+1:=by simp
      obtain⟨H,I⟩:=APA (z:=z) (ps:=ps) (pre++[enc c y]) J (by rw[q];exact j) (by rw[q];omega);simp only[AK,erQ,Lv.bsK,Lu O,En.fg,Ac];rw[AW L,E];dsimp only;rw[<-JC Y];have X:(pre++List.replicate (n-pre.length) z).set pre.length (enc c y)=(pre++[enc c y])++List.replicate (n-(pre++[enc c y]).length) z:=by
       rw[List.set_append_right _ _ (Ab _),Ek,q];have:n-pre.length=(n-(pre.length+1))+1:=by omega
       rw[this,JT];simp
      rw[X];refine⟨?_,G.trans I⟩;simpa[erQ] using H
     .cases h
    .cases h
   .cases h
  .cases h
theorem Oo{S}{len}{lo hi}{K:Nat->Nat->Option ρ}{r}(h:range S len lo hi K=some r) :
 ∃a b,(S.fg R).range len (lo.map (YO.er R)) (hi.map (YO.er R))=some (a,b)/\K a b=some r/\∀{α:Type} (xs:List α),xs.length=len->part lo hi xs a b=(xs.drop a).take (b-a):=by
 unfold range at h
 grind[part,Lv.St.range,Lv.St.ATy,Qb,Tp,List.take_of_length_le]
theorem YE:∀(q:List (Nat×Nat)) (X:List (List T)),(NY X q).length=X.length| [],_=>rfl|(i,j)::q,X=>by rw[NY,YE q];simp[Jg]
theorem Uy{S:St}{c}{l}(h:S.wide c l=true)(y:(∃s j xs,l=.vw s j xs)\/(∃q sub,l=.al q sub)\/l=.t .nil):(S.fg R).wide c.size (AS.fg R l)=true:=by
 rcases y with ⟨s,j,xs,rfl⟩|⟨q,sub,rfl⟩|rfl
 .simp only[St.wide,decide_eq_true_eq]at h;subst h;simp[AS.fg,Lv.St.wide]
 .simp only[St.wide]at h;simp only[AS.fg,Lv.St.wide,Jx];split at h
  .rename_i x B;rw[B];simp only[Ap,AS.fg];cases x<;>simp only[U.fg,eOf];simp only[decide_eq_true_eq]at h;subst h;simp
  .grind[AS.fg,eOf]
  .cases h
 .rfl
theorem AMy{off}{p q}(h:NM off p=some q):Lv.NM off (AS.fg R p)=some (AS.fg R q):=by
 cases p<;>simp only[NM]at h<;>first
  |cases h;done
  |(cases h;simp only[AS.fg,Lv.NM,Cr])
theorem ATf p :Lv.St.SZ (AS.fg R p)=SZ p:=by cases p<;>rfl
theorem AZA{l}{c}(h:l.AY8=some c):c.fg=AS.fg R l/\(AS.fg R l).plain=true:=by
 unfold AS.AY8 at h;split at h<;>first|cases h;done|(cases h;exact⟨rfl,rfl⟩)
theorem pY:∀{es:List En} {cs:List Cap},tx es=some cs->((es.map (En.fg R)).all λe=>Lv.ADn e.sh&&e.cs.length==1&&e.cs.all Lv.AS.plain)=true/\(es.map (En.fg R)).flatMap Lv.Ent.cs=cs.map Cap.fg
 | [],cs,h=>by cases h;exact⟨rfl,rfl⟩
 |e::es,cs,h=>by
  unfold tx at h;split at h
  .rename_i j;cases j
  .rename_i l y j;cases j;split at h
   .rename_i c q B E;cases h;obtain⟨G,H⟩:=pY E;obtain⟨I,J⟩:=AZA (R:=R) B;constructor
    .rw[AK,List.all_cons,G];simp[En.fg,Lv.ADn,J]
    .simp only[AK,List.flatMap_cons,H,En.fg,Ba,List.singleton_append,I]
   .cases h
  .cases h
end
end Y
namespace Y
section
variable{R:List GF}{ρ:Type}
def zsC(c:C):List T:=match AFH c with|some z=>enc c z|none=>[]
theorem AH9{c}{z}(h:AFH c=some z):zsC c=enc c z:=by unfold zsC;rw[h]
def YOp.er:YOp R->XOp|.mv d x=>.mv d (x.er R)|.as d x=>.as d (x.er R)|.pick d c a b=>.pick d (c.er R) (a.er R) (b.er R)|.alloc d zs=>.alloc d (zs.map U.fg)|.box d x=>.box d (x.er R)|.build d zs ps=>.build d (zs.map U.fg) (ps.map (erP R))|.CC d n c ps=>.CC d n (zsC c) (ps.map (erQ R))|.ld d n x=>.ld d n (x.er R)|.st n x v=>.st n (x.er R) (v.er R)|.chk d x=>.chk d (x.er R)|.bin d c op x y=>.bin d c op (x.er R) (y.er R)|.un d op x=>.un d op (x.er R)|.cvI d k x=>.cvI d k (x.er R)|.Nf d x=>.Nf d (x.er R)|.Pk d x=>.Pk d (x.er R)|.No d n caps=>.No d (xr R n) (caps.map (YO.er R))|.Sg d c n=>.Sg d (zsC c) (n.er R) (n.er R)|.sub d c x lo hi=>.sub d c.size (x.er R) (lo.map (YO.er R)) (hi.map (YO.er R))|.WK d x lo hi=>.WK d (x.er R) (lo.map (YO.er R)) (hi.map (YO.er R))|.fa d off x=>.fa d off (x.er R)|.fld d off n x=>.fld d off n (x.er R)|.ia d c x i=>.ia d c.size (x.er R) (i.er R)|.ix d x i=>.ix d (x.er R) (i.er R)|.ext d x i=>.ext d (x.er R) i|.call d g _ _ args=>.call d g.x (args.map (YO.er R))|.ED d x ms args=>.ED d (x.er R) ms (args.map (YO.er R))|.len d x=>.len d (x.er R)|.lens d x=>.lens d (x.er R)|.app d c fl x y=>.app d c.size fl (x.er R) (y.er R)|.Sl d c x n=>.Sl d (zsC c) (x.er R) (n.er R)|.cpy d c x y=>.cpy d c.size (x.er R) (y.er R)|.mm d m x y=>.mm d m (x.er R) (y.er R)|.mmk d=>.mmk d|.U1 d x k=>.U1 d (x.er R) (k.er R)|.To x k v=>.To (x.er R) (k.er R) (v.er R)|.U2 d x=>.U2 d (x.er R)|.bad d=>.bad d|.drop ds=>.drop ds|.Qn ns=>.Qn (ns.map λp=>(p.1,p.2.size))
def Plain(o:YOp R)(S:St)(K:St->Option ρ)(r:ρ):Prop:=∃S',Lv.ev o.er (S.fg R)=some (S'.fg R)/\Bc S S'/\K S'=some r
theorem Cn{o:YOp R}{S S1:St}{d:Nat}{sh:Sh}{cs:List AS}{K:St->Option ρ}{r:ρ}(h:Hs S1 d sh cs K=some r)(E:Bc S S1)(B:Lv.ev o.er (S.fg R)=(S1.fg R).EY d ⟨sh,cs.map (AS.fg R)⟩):Plain o S K r:=by
 obtain⟨S',j,q,y⟩:=eO (R:=R) h;exact⟨S',B.trans j,E.trans q,y⟩
variable{S:St}{K:St->Option ρ}{r:ρ}
theorem ALP{d:Nat}{x:YO}(h:ev (.mv d x:YOp R) S K=some r):Plain (.mv d x:YOp R) S K r:=by
 simp only[ev]at h;split at h
 .rename_i e j;exact Cn h (Bc.refl _) (by simp only[YOp.er,Lv.ev,Lu j,En.fg])
 .cases h
theorem AT9{d:Nat}{x:YO}(h:ev (.as d x:YOp R) S K=some r):Plain (.as d x:YOp R) S K r:=by
 simp only[ev]at h;split at h
 .rename_i e B;split at h
  .rename_i S1 cs j;obtain⟨q,y⟩:=Q4 (R:=R) j;exact Cn h y (by simp only[YOp.er,Lv.ev,Lu B,En.fg,q])
  .cases h
 .cases h
theorem yX{d:Nat}{c a b:YO}(h:ev (.pick d c a b:YOp R) S K=some r):Plain (.pick d c a b:YOp R) S K r:=by
 simp only[ev]at h;split at h
 .rename_i t ea eb q y B;rcases AII h with ⟨rfl,j⟩|⟨rfl,j⟩
  .exact Cn j (Bc.refl _) (by simp only[YOp.er,Lv.ev,Pb q,Lu y,Lu B,U.fg,En.fg,if_true])
  .exact Cn j (Bc.refl _) (by simp only[YOp.er,Lv.ev,Pb q,Lu y,Lu B,U.fg,En.fg,BJ,if_false])
 .cases h
theorem m9{d:Nat}{j:List U}(h:ev (.alloc d j:YOp R) S K=some r):Plain (.alloc d j:YOp R) S K r:=by
 simp only[ev]at h;obtain⟨S',q,y,B⟩:=ml (R:=R) h;refine⟨S',?_,y,B⟩;rw[<-q];simp only[YOp.er,Lv.ev,Lv.Qm,DP];rfl
theorem AHO{d:Nat}{x:YO}(h:ev (.box d x:YOp R) S K=some r):Plain (.box d x:YOp R) S K r:=by
 simp only[ev]at h;split at h
 .rename_i e G;split at h
  .rename_i S1 cs j;obtain⟨q,y⟩:=AWr (R:=R) j;split at h
   .cases h
   .rename_i I;obtain⟨S',H,B,E⟩:=ml (R:=R) h;refine⟨S',?_,y.trans B,E⟩;simp only[YOp.er,Lv.ev,Lu G,En.fg,q,UI,Ac]
    grind[Mu,Lv.FO,Lv.GA,YU,YT,Lv.Qm]
  .cases h
 .cases h
theorem nA{d:Nat}{j:List U}{ps:List (Nat×Nat×YO)}(h:ev (.build d j ps:YOp R) S K=some r):Plain (.build d j ps:YOp R) S K r:=by
 simp only[ev]at h;split at h
 .rename_i ls q;have:=pd (R:=R) q;rw[DP]at this;refine Cn h (Bc.refl _) ?_;simp only[YOp.er,Lv.ev,DP];rw[show (Lv.AS.t∘U.fg)=(AS.fg R∘AS.t) from rfl,this]
 .cases h
theorem ah{d n:Nat}{c:C}{ps:List (Nat×YO)}(h:ev (.CC d n c ps:YOp R) S K=some r):Plain (.CC d n c ps:YOp R) S K r:=by
 simp only[ev]at h;split at h
 .rename_i z E;split at h
  .rename_i y;split at h
   .rename_i S1 xs j;have q:Lv.bsK c.size n (S.fg R) (rowsOf n (enc c z)) (ps.map (erQ R))=some (S1.fg R,xs.map (enc c))/\Bc S S1:=by
     split at j
     .rename_i B;have:=APA (R:=R) (z:=enc c z) [] j B (Nat.zero_le _);simpa[rowsOf] using this
     .have:=AO9 (R:=R) j;rw[Ff]at this;exact this
    refine Cn h q.2 ?_;simp only[YOp.er,Lv.ev,AH9 E,PM];rw[AW y,q.1];rfl
   .cases h
  .cases h
 .cases h
theorem AUD{d:Nat}{n:Option Nat}{x:YO}(h:ev (.ld d n x:YOp R) S K=some r):Plain (.ld d n x:YOp R) S K r:=by
 simp only[ev]at h;split at h
 .rename_i p q;obtain⟨ls,j,h⟩:=PW (R:=R) h
  grind[Cn,Bc.refl,YOp.er,Lv.ev,E7]
 .cases h
theorem AUE{n:Nat}{x v:YO}(h:ev (.st n x v:YOp R) S K=some r):Plain (.st n x v:YOp R) S K r:=by
 simp only[ev]at h;split at h
 .rename_i p e G E;split at h
  .rename_i B;obtain⟨S',j,q,y⟩:=AOe (R:=R) h;refine⟨S',?_,q,y⟩;simp only[YOp.er,Lv.ev,E7 G,Lu E,En.fg,Ac];rw[AW B,j]
  .cases h
 .cases h
theorem AHP{d:Nat}{x:YO}(h:ev (.chk d x:YOp R) S K=some r):Plain (.chk d x:YOp R) S K r:=by
 simp only[ev]at h
 grind[Cn,Bc.refl,YOp.er,Lv.ev,E7,ATf]
theorem AHN{d:Nat}{c:Cls}{op:BinOp}{x y:YO}(h:ev (.bin d c op x y:YOp R) S K=some r):Plain (.bin d c op x y:YOp R) S K r:=by
 simp only[ev]at h;split at h
 .rename_i ex ey j q;obtain⟨u,B,h⟩:=AY3 (R:=R) h;exact Cn h (Bc.refl _) (by simp only[YOp.er,Lv.ev,Lu j,Lu q,B];rfl)
 .cases h
theorem AUF{d:Nat}{op:UnOp}{x:YO}(h:ev (.un d op x:YOp R) S K=some r):Plain (.un d op x:YOp R) S K r:=by
 simp only[ev]at h;split at h
 .rename_i a j;obtain⟨u,q,h⟩:=AaA h;exact Cn h (Bc.refl _) (by simp only[YOp.er,Lv.ev,Pb j,q];rfl)
 .cases h
theorem AHR{d:Nat}{k:IntKind}{x:YO}(h:ev (.cvI d k x:YOp R) S K=some r):Plain (.cvI d k x:YOp R) S K r:=by
 simp only[ev]at h
 grind[Cn,Bc.refl,YOp.er,Lv.ev,Tp,AS.fg,ATx]
theorem yQ{d:Nat}{x:YO}(h:ev (.Nf d x:YOp R) S K=some r):Plain (.Nf d x:YOp R) S K r:=by
 simp only[ev]at h;split at h
 .rename_i s j;exact Cn h (Bc.refl _) (by simp only[YOp.er,Lv.ev,Pb j,U.fg];rfl)
 .cases h
theorem yP{d:Nat}{x:YO}(h:ev (.Pk d x:YOp R) S K=some r):Plain (.Pk d x:YOp R) S K r:=by
 simp only[ev]at h;split at h
 .rename_i l y;split at h
  .rename_i w G;split at h
   .rename_i j E;have q:=QX (R:=R) G;rw[eZ E]at q;refine Cn h (Bc.refl _) ?_;have B:bytesOf (j.map (enc .u))=some j:=AAA j;simp only[YOp.er,Lv.ev,E7 y,q,B];rfl
   .cases h
  .cases h
 .cases h
theorem yT{d n:Nat}{caps:List YO}(h:ev (.No d n caps:YOp R) S K=some r):Plain (.No d n caps:YOp R) S K r:=by
 simp only[ev]at h;split at h
 .rename_i es B;split at h
  .rename_i cs y;obtain⟨j,q⟩:=pY (R:=R) y;refine Cn h (Bc.refl _) ?_;simp only[YOp.er,Lv.ev,au B];rw[AW j,q];rfl
  .cases h
 .cases h
theorem yU{d:Nat}{c:C}{n:YO}(h:ev (.Sg d c n:YOp R) S K=some r):Plain (.Sg d c n:YOp R) S K r:=by
 simp only[ev]at h;split at h
 .grind[Qb,Cn,Bc.refl,YOp.er,Lv.ev,Tp,AH9,PM,rowsOf,AS.fg,U.fg,List.map_replicate]
 .cases h
theorem yY{d:Nat}{x:YO}{lo hi:Option YO}(h:ev (.WK d x lo hi:YOp R) S K=some r):Plain (.WK d x lo hi:YOp R) S K r:=by
 simp only[ev]at h;split at h
 .rename_i s y;obtain⟨a,b,j,h,q⟩:=Oo (R:=R) h;rw[q s rfl]at h;exact Cn h (Bc.refl _) (by simp only[YOp.er,Lv.ev,Pb y,U.fg,j];rfl)
 .cases h
theorem AP4{q:CL}{sub:Option (Nat×Nat)}{w:Rw}{c:C}{xs:List c.D}(h:S.elems (.al q sub)=some w)(j:w.as c=some xs):(S.fg R).elems (.al q sub)=some (xs.map (enc c)):=by
 have:=QX (R:=R) h;rw[eZ j]at this;exact this
theorem AHW{d:Nat}{c:C}{x:YO}{lo hi:Option YO}(h:ev (.sub d c x lo hi:YOp R) S K=some r):Plain (.sub d c x lo hi:YOp R) S K r:=by
 simp only[ev]at h;split at h
 .rename_i l G;split at h
  .rename_i H;split at h
   .rename_i q sub;have j:=Uy (R:=R) H (.inr (.inl ⟨_,_,rfl⟩));split at h
    .rename_i w I;split at h
     .rename_i xs J;obtain⟨a,b,B,h,_⟩:=Oo (R:=R) h;have E:=AP4 (R:=R) I J;have y:=E7 (R:=R) G;simp only[AS.fg]at j y;refine Cn h (Bc.refl _) ?_;simp only[YOp.er,Lv.ev,y,j,if_true,E,Ac,B];cases sub with|none=>rfl|some p=>rfl
     .cases h
    .cases h
   .rename_i s L xs;have j:=Uy (R:=R) H (.inl ⟨_,_,_,rfl⟩);obtain⟨a,b,B,h,E⟩:=Oo (R:=R) h;rw[E xs rfl]at h;have y:=E7 (R:=R) G;simp only[AS.fg]at j y;refine Cn h (Bc.refl _) ?_;simp only[YOp.er,Lv.ev,y,j,if_true,Lv.St.elems,Ac,B,AK,Ba,AS.fg,DE,Cr]
   .obtain⟨a,b,B,h,_⟩:=Oo (R:=R) h;have j:=Uy (R:=R) H (.inr (.inr rfl));have y:=E7 (R:=R) G;simp only[AS.fg,U.fg]at j y;refine Cn h (Bc.refl _) ?_;simp only[YOp.er,Lv.ev,y,j,if_true,Lv.St.elems,AM,B,AK,Ba,AS.fg,U.fg]
   .cases h
  .cases h
 .cases h
theorem AUA{d off:Nat}{x:YO}(h:ev (.fa d off x:YOp R) S K=some r):Plain (.fa d off x:YOp R) S K r:=by
 simp only[ev]at h;split at h
 .rename_i p j;split at h
  .rename_i q y;exact Cn h (Bc.refl _) (by simp only[YOp.er,Lv.ev,E7 j,AMy y];rfl)
  .cases h
 .cases h
theorem AHT{d off:Nat}{n:Option Nat}{x:YO}(h:ev (.fld d off n x:YOp R) S K=some r):Plain (.fld d off n x:YOp R) S K r:=by
 simp only[ev]at h;split at h
 .rename_i cs q;split at h
  .rename_i j;refine Cn h (Bc.refl _) ?_;simp only[YOp.er,Lv.ev,Lu q,En.fg,Ac,j,if_true,DE,Cr]
  .cases h
 .cases h
theorem AUB{d:Nat}{c:C}{x i:YO}(h:ev (.ia d c x i:YOp R) S K=some r):Plain (.ia d c x i:YOp R) S K r:=by
 simp only[ev]at h;split at h
 .rename_i l n I J;split at h
  .rename_i O;split at h
   .rename_i q sub;have j:=Uy (R:=R) O (.inr (.inl ⟨_,_,rfl⟩));split at h
    .rename_i H xs X;obtain⟨y,G,h⟩:=WZ h;have L:=QX (R:=R) X;have E:=E7 (R:=R) I;simp only[AS.fg]at j E L;have B:=QB G;refine Cn h (Bc.refl _) ?_;simp only[YOp.er,Lv.ev,E,Tp J,L,Rw.fg,Ac];rw[AW ⟨j,B.1,B.2.1⟩];cases sub with
     |none=>rfl|some p=>
      obtain⟨lo,m⟩:=p;simp only[AK,Ba,AS.fg];congr 5;have:=B.1;omega
    .split at h
     .split at h
      .rename_i H xs Z Y;obtain⟨y,G,h⟩:=WZ h;have E:=E7 (R:=R) I;simp only[AS.fg]at j E;have B:=QB G;refine Cn h (Bc.refl _) ?_;simp only[YOp.er,Lv.ev,E,Tp J,Lv.St.elems,Jx,Y,Ap,AS.fg,Lv.content,Lv.KF,YE,Ac];rw[AW ⟨j,B.1,B.2.1⟩];rfl
      .cases h
     .cases h
   .rename_i s H xs;have j:=Uy (R:=R) O (.inl ⟨_,_,_,rfl⟩);obtain⟨y,G,h⟩:=WZ h;have E:=E7 (R:=R) I;simp only[AS.fg]at j E;have B:=QB G;refine Cn h (Bc.refl _) ?_;simp only[YOp.er,Lv.ev,E,Tp J,Lv.St.elems,Ac];rw[AW ⟨j,B.1,B.2.1⟩];have Q:(xs.map (enc H)).getD n.toNat []=(cells H y).map U.fg:=by
     rw[BC,uD G,DH,FY]
    rw[Q];rfl
   .cases h
  .cases h
 .cases h
theorem AUC{d:Nat}{x i:YO}(h:ev (.ix d x i:YOp R) S K=some r):Plain (.ix d x i:YOp R) S K r:=by
 simp only[ev]at h;split at h
 .rename_i s n B q;obtain⟨y,E,h⟩:=WZ h;have j:=QB E;refine Cn h (Bc.refl _) ?_;simp only[YOp.er,Lv.ev,Pb B,U.fg,Tp q];rw[AW ⟨j.1,j.2.1⟩];have:s.getD n.toNat 0=y:=by rw[BC,j.2.2.2.1,DH]
  rw[this];rfl
 .cases h
theorem AHS{d:Nat}{x:YO}{i:Nat}(h:ev (.ext d x i:YOp R) S K=some r):Plain (.ext d x i:YOp R) S K r:=by
 simp only[ev]at h;split at h
 .rename_i s;split at h
  .rename_i ns cs v E;split at h
   .rename_i n G;split at h
    .rename_i B;split at h
     .rename_i S1 ls q;obtain⟨j,y⟩:=Q4 (R:=R) q;refine Cn h y ?_;simp only[YOp.er,YO.er,Lv.ev,Xw,E,Ap,Ent.fg,G,Ac,B,if_true];rw[DE,Cr,tu]at j;rw[j]
     .cases h
    .cases h
   .cases h
  .cases h
 .cases h
theorem yR{d:Nat}{x:YO}(h:ev (.lens d x:YOp R) S K=some r):Plain (.lens d x:YOp R) S K r:=by
 simp only[ev]at h;split at h
 .rename_i s j;exact Cn h (Bc.refl _) (by simp only[YOp.er,Lv.ev,Pb j,U.fg];rfl)
 .cases h
theorem AHU{d:Nat}{x:YO}(h:ev (.len d x:YOp R) S K=some r):Plain (.len d x:YOp R) S K r:=by
 simp only[ev]at h;split at h
 .rename_i l y;split at h
  .rename_i c xs q;have j:=QX (R:=R) q;exact Cn h (Bc.refl _) (by simp only[YOp.er,Lv.ev,E7 y,j,Rw.fg,Ac];rfl)
  .rename_i q;have j:=QX (R:=R) q;exact Cn h (Bc.refl _) (by simp only[YOp.er,Lv.ev,E7 y,j,Rw.fg,AM];rfl)
  .cases h
 .cases h
theorem yN{d:Nat}{c:C}{fl:Bool}{x y:YO}(h:ev (.app d c fl x y:YOp R) S K=some r):Plain (.app d c fl x y:YOp R) S K r:=by
 simp only[ev]at h;split at h
 .rename_i lx ly O Q;split at h
  .rename_i S1 ys j;obtain⟨q,B⟩:=AX5 (R:=R) j;split at h
   .rename_i S2 b n e E;obtain⟨J,h⟩:=AQG h;obtain⟨G,H⟩:=zy (R:=R) E J;obtain⟨I,h⟩:=Qb h;split at h
    .rename_i u L;refine Cn h (B.trans H) ?_;simp only[YOp.er,Lv.ev,E7 O,E7 Q,q,G,Ac];rw[AW I,<-AID L];rfl
    .cases h
   .cases h
  .cases h
 .cases h
theorem yO{d:Nat}{c:C}{x n:YO}(h:ev (.Sl d c x n:YOp R) S K=some r):Plain (.Sl d c x n:YOp R) S K r:=by
 simp only[ev]at h;split at h
 .rename_i lx k z J H L;obtain⟨j,h⟩:=Qb h;split at h
  .rename_i S2 b m e q;obtain⟨G,h⟩:=AQG h;obtain⟨y,B⟩:=zy (R:=R) q G;obtain⟨E,h⟩:=Qb h;split at h
   .rename_i u I;refine Cn h B ?_;simp only[YOp.er,Lv.ev,E7 J,Tp H,AH9 L,PM];rw[AW j]
    try dsimp only
    rw[y]
    try dsimp only
    rw[AW E];have:=AID I;rw[Ff]at this;simp only[rowsOf,<-this,AK,Ba,AS.fg]
   .cases h
  .cases h
 .cases h
theorem AHQ{d:Nat}{c:C}{x y:YO}(h:ev (.cpy d c x y:YOp R) S K=some r):Plain (.cpy d c x y:YOp R) S K r:=by
 simp only[ev]at h;split at h
 .rename_i q ly hx hy;split at h
  .rename_i O B w X J;split at h
   .rename_i ys xs hys j;split at h
    .rename_i E;obtain⟨hne,h⟩:=Qb h;have Y:O=c:=by
      simp only[Rw.as]at j;split at j
      .rename_i E;exact E
      .cases j
     subst Y;have Z:B=xs:=by simp only[Rw.as]at j;simpa using j
     subst Z;have Q:=QX (R:=R) J;rw[eZ hys]at Q;have h3:=E7 (R:=R) hx;simp only[AS.fg]at h3;have H:(S.fg R).wide O.size (AS.fg R ly)=true:=by
      refine Uy E.1 ?_;unfold St.elems at J;split at J
      .exact .inr (.inl ⟨_,_,rfl⟩)
      .exact .inl ⟨_,_,_,rfl⟩
      .exact .inr (.inr rfl)
      .cases J
     have G:(B.map (enc O)).isEmpty=false:=by cases B<;>simp_all
     have I:=E7 (R:=R) hy;generalize AS.fg R ly=L at I Q H;refine Cn h ((Bc.Bi _ _ _).trans (Bc.kill _ _)) ?_;simp only[YOp.er,Lv.ev,h3,I,Jx,X,Ap,AS.fg,U.fg,Q];rw[AW ⟨trivial,H,JZ E.2 _,JZ E.2 _,G⟩,<-LM (Rz q),GQ];simp only[AS.fg,U.fg,Cx,DE,Cr,Ac,AK,Ba]
    .cases h
   .cases h
  .cases h
 .cases h
theorem ALO{d:Nat}{m:Bool}{x y:YO}(h:ev (.mm d m x y:YOp R) S K=some r):Plain (.mm d m x y:YOp R) S K r:=by
 simp only[ev]at h;split at h
 .rename_i k a E b j q;split at h
  .rename_i B;exact Cn h (Bc.refl _) (by simp only[YOp.er,Lv.ev,Pb j,Pb q,U.fg];rw[AW B];rfl)
  .cases h
 .cases h
theorem mg{x:YO}{q:CL}{ks:List (Int×Int)}(h:S.Qj x=some (q,ks)):(S.fg R).Qj (x.er R)=some (q,ks):=by
 unfold St.Qj at h;split at h
 .rename_i E j;split at h
  .rename_i y B;cases h;have:=E7 (R:=R) j
   grind[AS.fg,Lv.St.Qj,Jx,U.fg]
  .cases h
 .cases h
theorem AHV{d:Nat}(h:ev (.mmk d:YOp R) S K=some r):Plain (.mmk d:YOp R) S K r:=by
 simp only[ev]at h;exact Cn h (Bc.refl _) (by simp only[YOp.er,Lv.ev];rfl)
theorem yS{d:Nat}{x k:YO}(h:ev (.U1 d x k:YOp R) S K=some r):Plain (.U1 d x k:YOp R) S K r:=by
 simp only[ev]at h;split at h
 .rename_i q ks n j y;exact Cn h (Bc.refl _) (by simp only[YOp.er,Lv.ev,mg j,Pb y,U.fg];rfl)
 .cases h
theorem yV{d:Nat}{x:YO}(h:ev (.U2 d x:YOp R) S K=some r):Plain (.U2 d x:YOp R) S K r:=by
 simp only[ev]at h;split at h
 .rename_i q ks j;exact Cn h (Bc.refl _) (by simp only[YOp.er,Lv.ev,mg j];rfl)
 .cases h
theorem yW{x k v:YO}(h:ev (.To x k v:YOp R) S K=some r):Plain (.To x k v:YOp R) S K r:=by
 simp only[ev]at h;split at h
 .rename_i q ks n m j y B;refine⟨_,?_,(Bc.Bi _ _ _).trans (Bc.kill _ _),h⟩;simp only[YOp.er,Lv.ev,mg j,Pb y,Pb B,U.fg];rw[<-LM (Rz q),GQ];rfl
 .cases h
theorem AKr{o:YOp R}(h:ev o S K=some r):∃S',Bc S S'/\K S'=some r/\∀N:Lv.St->Prop,N (S'.fg R)->opK KG o.er (S.fg R) N:=by
 have pl:Plain o S K r->∃S',Bc S S'/\K S'=some r/\∀N:Lv.St->Prop,N (S'.fg R)->opK KG o.er (S.fg R) N:=λ⟨S',j,q,y⟩=>⟨S',q,y,λN hN=>.inl ⟨_,j,hN⟩⟩
 cases o with
 |mv=>exact pl (ALP h)|as=>exact pl (AT9 h)|pick=>exact pl (yX h)|alloc=>exact pl (m9 h)|box=>exact pl (AHO h)|build=>exact pl (nA h)|CC=>exact pl (ah h)|ld=>exact pl (AUD h)|st=>exact pl (AUE h)|chk=>exact pl (AHP h)|bin=>exact pl (AHN h)|un=>exact pl (AUF h)|cvI=>exact pl (AHR h)|Nf=>exact pl (yQ h)|Pk=>exact pl (yP h)|No=>exact pl (yT h)|Sg=>exact pl (yU h)|sub=>exact pl (AHW h)|WK=>exact pl (yY h)|fa=>exact pl (AUA h)|fld=>exact pl (AHT h)|ia=>exact pl (AUB h)|ix=>exact pl (AUC h)|ext=>exact pl (AHS h)|len=>exact pl (AHU h)|lens=>exact pl (yR h)|app=>exact pl (yN h)|Sl=>exact pl (yO h)|cpy=>exact pl (AHQ h)|mm=>exact pl (ALO h)|mmk=>exact pl (AHV h)|U1=>exact pl (yS h)|To=>exact pl (yW h)|U2=>exact pl (yV h)|bad=>simp[ev]at h|drop Q=>exact pl ⟨_,by simp only[YOp.er,Lv.ev,ADL],Bc.Ir _ _,h⟩|Qn ns=>exact pl ⟨_,by simp only[YOp.er,Lv.ev,xx],Bc.Rv _ _,h⟩|call d g fs I args=>
  simp only[ev]at h;split at h
  .rename_i es G;obtain⟨S1,vs,cs,outs,S',j,q,y,B,E⟩:=AAG (Al.of I) h;refine⟨S',B,E,λN hN=>.inr ⟨d,g.x,es.map (En.fg R),S1,vs,_,cs,outs,_,?_,j,q,y,hN⟩⟩;simp only[YOp.er,Lv.Fy,au G]
  .cases h
 |ED d x ms args=>
  simp only[ev]at h;split at h
  .rename_i n caps es H G;split at h
   .rename_i g J;split at h
    .rename_i L;obtain⟨S1,vs,cs,outs,S',j,q,y,B,E⟩:=AAG (Al.nil _) h;refine⟨S',B,E,λN hN=>.inr ⟨d,g.x,_,S1,vs,_,cs,outs,_,?_,j,q,y,hN⟩⟩;have O:xr R n=g.x:=by unfold xr;rw[J]
     simp only[YOp.er,Lv.Fy,E7 H,au G,AS.fg,O];rw[AW (by rw[g.ms,L])];simp only[Cx,DP,AD,Prod.mk.injEq,true_and,List.append_cancel_left_eq];apply List.map_congr_left;intro c _;simp only[Function.comp,En.fg,AK,Ba,bN]
    .cases h
   .cases h
  .cases h
end
end Y
namespace Y
section
variable{R:List GF}{ρ:Type}
variable{b:Bool}{v:Nat}{X:Option ρ}{S:St}{K:St->Option ρ}
def B4.er:B4 R->Se|.nil=>.nil|.op i g sf o rest=>.op i g sf o.er rest.er|.dr ds rest=>.dr ds rest.er|.nl ns rest=>.nl (ns.map λp=>(p.1,p.2.size)) rest.er|.both _ a b=>.both a.er b.er
def HG.er:HG R->OH|.skip=>.skip|.region ops _=>.region (ops.map λp=>(p.1,p.2.er)) []|.Vi r _=>.Vi r.er []|.seq a b=>.seq a.er b.er|.join _ a b=>.seq a.er b.er|.cond c _ _ t e=>.cond c [] [] t.er e.er|.block id b=>.block id b.er|.loop _ b=>.loop b.er|.exit id=>.exit id|.ret=>.ret|.scope b=>.scope b.er|.or a b=>.or a.er b.er|.dead=>.dead|.AUN _ b=>.loop b.er|.Ty a b _ d p c e=>.Ty (a.map λp=>(p.1,p.2.er)) (b.map λp=>(p.1,p.2.er)) [] d p c e
theorem AZG(o:YOp R):o.er.lK=o.lK:=by cases o<;>rfl
theorem nk{o:YOp R}{r}(h:Mz o S K=some r):∃S',Lv.Mz o.er (S.fg R)=some (S'.fg R)/\Bc S S'/\K S'=some r:=by
 unfold Mz at h;unfold Lv.Mz;rw[AZG];split at h
 .rename_i d B;obtain⟨S',j,q,y⟩:=eO (R:=R) h;rw[B];exact⟨S',j,q,y⟩
 grind[Bc.refl]
theorem AVc{s}{e x}:∀{l:List (Nat×Ent)},get l s=some x->e.fg R=x.fg R->fgE R (reE s e l)=fgE R l
 | [],h,_=>rfl|(k,y)::l,h,q=>by
  simp only[get]at h;simp only[reE];cases j:Nat.beq k s with
  |true=>rw[j]at h;cases h;simp only[fgE,AK,q]
  |false=>
   rw[j]at h;have:=AVc (l:=l) h q
   grind[fgE]
theorem AKy{s}{e}:∀{l:List (Nat×Ent)} {k:Nat} {y:Ent},get (reE s e l) k=some y->y=e\/get l k=some y
 | [],k,y,h=>.inr h|(j,x)::l,k,y,h=>by
  simp only[reE]at h;cases B:Nat.beq j s with
  |true=>
   grind[get,Nat.beq]
  |false=>
   rw[B]at h;simp only[get]at h ⊢;cases q:Nat.beq j k with
   |true=>rw[q]at h;exact .inr h|false=>rw[q]at h;exact AKy h
theorem AZY{s:Nat}(h:get S.tm s=some ⟨.one,[.t (.bool b)],v⟩):(S.lit s b).fg R=S.fg R/\Bc S (S.lit s b):=by
 refine⟨?_,by simp[St.lit],λk e q y=>?_,λ_ _ h _=>h,rfl⟩
 .simp only[St.fg,St.lit];have:=AVc (R:=R) (e:=⟨.one,[.t (.bool b)],S.nv⟩) h rfl;rw[this]
 .rcases AKy q with rfl|j
  .grind
  .exact j
def Gd(R:List GF)(g:Option (Nat×Bool))(o:YOp R)(S:Lv.St)(N:Lv.St->Prop):Prop:=
 ∃b,Lv.wanted S g=some b/\((b=true/\opK KG o.er S N)\/(b=false/\∃S',Lv.Mz o.er S=some S'/\N S'))
theorem te{s:Nat}{w:Bool}(h:get S.tm s=some ⟨.one,[.t (.bool b)],v⟩):Lv.wanted (S.fg R) (some (s,w))=some (b==w):=by
 simp only[Lv.wanted,Xw,h];rfl
theorem AFC{s}{w}(h:get S.tm s=some ⟨.one,[.und],v⟩):Lv.wanted (S.fg R) (some (s,w))=some false:=by
 simp only[Lv.wanted,Xw,h];rfl
theorem UK{S:St}{s:Nat}{w b:Bool}{v:Nat}{o:YOp R}{f:Option ρ}{K:St->Option ρ}{r:ρ}{P:Lv.St->(Lv.St->Prop)->Prop}(y:get S.tm s=some ⟨.one,[.t (.bool b)],v⟩)(x:Bool)(G:x=(b==w))
 (h:nD x o (S.lit s b) f K=some r) (H:f=some r->∃S',Bc (S.lit s b) S'/\K S'=some r/\∀N:Lv.St->Prop,N (S'.fg R)->P ((S.lit s b).fg R) N) :
 ∃S',Bc S S'/\K S'=some r/\∀N:Lv.St->Prop,N (S'.fg R)->∃b,Lv.wanted (S.fg R) (some (s,w))=some b/\((b=true/\P (S.fg R) N)\/(b=false/\∃S',Lv.Mz o.er (S.fg R)=some S'/\N S')):=by
 obtain⟨I,E⟩:=AZY (R:=R) y;cases x with
 |true=>
  obtain⟨S',j,q,B⟩:=H h;refine⟨S',E.trans j,q,λN hN=>⟨_,te y,.inl ⟨G.symm,?_⟩⟩⟩
  grind
 |false=>
  obtain⟨S',j,q,B⟩:=nk (R:=R) h;refine⟨S',E.trans q,B,λN hN=>⟨_,te y,.inr ⟨G.symm,_,?_,hN⟩⟩⟩
  rwa[I]at j
theorem AZL{g}{o:YOp R}{r:ρ}(h:evg g o S K=some r) :
 ∃S',Bc S S'/\K S'=some r/\∀N:Lv.St->Prop,N (S'.fg R)->Gd R g o (S.fg R) N:=by
 unfold evg at h;split at h
 .obtain⟨S',y,B,E⟩:=AKr h;exact⟨S',y,B,λN hN=>⟨true,rfl,.inl ⟨rfl,E N hN⟩⟩⟩
 .rename_i s w;split at h
  .rename_i b v j;rcases AII h with ⟨rfl,q⟩|⟨rfl,q⟩
   .exact UK (P:=opK KG o.er) j w (by cases w<;>rfl) q λG=>AKr G
   .exact UK (P:=opK KG o.er) j (!w) (by cases w<;>rfl) q λG=>AKr G
  .rename_i v j;obtain⟨S',y,B,E⟩:=nk (R:=R) h;exact⟨S',B,E,λN hN=>⟨false,AFC j,.inr ⟨rfl,_,y,hN⟩⟩⟩
  .cases h
theorem vH:∀{ops:List (Option (Nat×Bool)×YOp R)} {S:St} {K:St->Option ρ} {r:ρ},evs ops S K=some r ->
 ∃S',Bc S S'/\K S'=some r/\∀N:Lv.St->Prop,N (S'.fg R)->ai KG (ops.map λp=>(p.1,p.2.er)) (S.fg R) N
 | [],S,K,r,h=>⟨S,Bc.refl _,h,λN hN=>hN⟩|(g,o)::ops,S,K,r,h=>by
  have j:evg g o S (λS'=>evs ops S' K)=some r:=by
   grind[evs,FA]
  obtain⟨S1,q,y,B⟩:=AZL j;obtain⟨S2,E,G,H⟩:=vH y;exact⟨S2,q.trans E,G,λN hN=>B _ (H N hN)⟩
theorem AbG(o:YOp R):o.er.wr=o.wr.map (YO.er R):=by cases o<;>rfl
theorem ZF l :∀(ks:List PK) (es:List En),Lv.Kg (AS.fg R l) (ks.map PK.md) (es.map (En.fg R))=Kg l ks es
 | [],es=>by cases es<;>rfl
 |k::ks,[]=>rfl|k::ks,e::es=>by
  simp only[AK,Lv.Kg,Kg,tj,En.fg,J3,Function.comp_def,AOS,ZF l ks es]
theorem AXL{l}(h:S.Oa l=true):(S.fg R).Oa (AS.fg R l)=true:=by
 unfold St.Oa at h;split at h
 .simp only[AS.fg,Lv.St.Oa,PO,Option.isSome_map];exact h
 .rfl
 .rename_i s cs;cases cs<;>simp_all[AS.fg,Lv.St.Oa]
 .grind[AS.fg,Lv.St.Oa,Jx,AXT]
 .rfl
 .rfl
 .cases h
theorem AAH{o:YOp R}{S}(j:∀d g fs y args,o≠.call d g fs y args)(q:∀d x ms args,o≠.ED d x ms args):Lv.Fy o.er S=none:=by
 cases o<;>first|rfl|(exact(j _ _ _ _ _ rfl).elim)|(exact(q _ _ _ _ rfl).elim)
theorem AVn{o:YOp R}{S}{l}(h:VP o S l=true):Lv.VP o.er (S.fg R) (AS.fg R l)=true:=by
 unfold VP at h;simp only[AF]at h;obtain⟨X,q⟩:=h;unfold Lv.VP;rw[AXL X,Bool.true_and];have E:(AS.fg R l).B8=l.B8:=LV l;have gen:(∀d g fs Q args,o≠.call d g fs Q args)->(∀d x ms args,o≠.ED d x ms args) ->
  (match o.wr with|some y=>(match S.one y with|some lt=>l.B8.isNone||!(match l.B8 with|some r=>isR lt.B8 r|none=>lt.B8.isNone)|none=>false)|none=>true)=true ->
  (match Lv.Fy o.er (S.fg R) with
  |some (_,f,es)=>Lv.Kg (AS.fg R l) (E4 f) es|none=>match o.er.wr with
   |some y=>(match (S.fg R).one y with|some lt=>(AS.fg R l).B8.isNone||decide ((AS.fg R l).B8≠lt.B8)|none=>true)
   |none=>true)=true:=by
  intro n1 n2 h;rw[AAH n1 n2,AbG];cases hy:o.wr with
  |none=>rfl|some y=>
   rw[hy]at h;dsimp only at h;cases B:S.one y with
   |none=>rw[B]at h;cases h
   |some lt=>
    rw[B]at h;dsimp only at h ⊢;simp only[Ap,E7 B];rw[E,LV,decide_not,<-AVj];exact h
 cases o with
 |st n x v=>
  dsimp only at q;have H:Lv.names (AS.fg R l)=names l:=mj l;generalize AS.fg R l=L at H E ⊢;cases B:S.one x with
  |none=>rw[B]at q;cases q
  |some lp=>
   rw[B]at q;have G:=E7 (R:=R) B;simp only[YOp.er,G];cases lp with
   |bp id o=>
    dsimp only at q;show (!(Lv.names L).contains id)=true;rw[H,List.contains_eq_mem,<-Ui];exact q
   |ep r0 i j=>
    dsimp only at q;show decide (L.B8≠some r0)=true;rw[E];rw[aM]at q;simpa using q
   |_=>cases q
 |call d g fs Q args=>
  dsimp only at q;cases J:S.rds args with
  |none=>rw[J]at q;cases q
  |some es=>
   rw[J]at q;have G:=ZF (R:=R) l g.ps es;generalize AS.fg R l=L at G ⊢;simp only[YOp.er,Lv.Fy,au J,g.ms];rw[G];exact q
 |ED d x ms args=>
  dsimp only at q;split at q
  .rename_i n caps es H Y;split at q
   .rename_i g Z;split at q
    .rename_i h7;have hx:xr R n=g.x:=by unfold xr;rw[Z]
     have I:=ZF (R:=R) l g.ps (es++caps.map λl=>⟨.one,[l.leaf]⟩);rw[Cx,DP]at I;rw[show (En.fg R∘λl=>(⟨.one,[l.leaf]⟩:En))=((λl=>(⟨Sh.one,[l]⟩:Lv.Ent))∘Cap.fg) from by funext c;simp only[Function.comp,En.fg,AK,Ba,bN],<-DP]at I;have O:=E7 (R:=R) H;simp only[AS.fg,hx]at O;generalize AS.fg R l=L at I ⊢;simp only[YOp.er,Lv.Fy,O,au Y];rw[AW (by rw[g.ms,h7])];dsimp only;rw[g.ms,I];exact q
    .cases q
   .cases q
  .cases q
 |_=>exact gen (by intros;simp) (by intros;simp) q
theorem AEg{o:YOp R}{S}:∀{sf:List Nat},KT o S sf=true->Lv.KT o.er (S.fg R) sf=true
 | [],h=>rfl|s::sf,h=>by
  simp only[KT,AF]at h;obtain⟨j,q⟩:=h;simp only[Lv.KT,AF];refine⟨?_,AEg q⟩;split at j
  .rename_i l y;have:=E7 (R:=R) y
   grind[YO.er,AVn]
  .cases j
theorem vG:∀{a b:List (Option Nat)},AMR a b=true->a=b
 | [],[],_=>rfl|none::r,none::r',h=>by simp only[AMR]at h;rw[vG h]|some a::r,some b::r',h=>by simp only[AMR,AF]at h;rw[beq_true h.1,vG h.2]| [],_::_,h=>by cases h
 |none::_,[],h=>by cases h
 |some _::_,[],h=>by cases h
 |none::_,some _::_,h=>by cases h
 |some _::_,none::_,h=>by cases h
theorem AXG{a b}(h:AZJ a b=true):a=b:=by
 cases a<;>cases b<;>first|rfl|(cases h;done)|(simp only[AZJ]at h;first|rw[vG h]|rw[beq_true h])
theorem ADO:∀{a b:Option (Nat×Nat)},AKo a b=true->a=b
 |none,none,_=>rfl|some (a,b),some (j,q),h=>by simp only[AKo,AF]at h;rw[beq_true h.1,beq_true h.2]|none,some _,h=>by cases h
 |some _,none,h=>by cases h
theorem ay:∀{a b:CL},CL.is a b=true->a=b
 |.tmp s c,.tmp q j,h=>by
  grind[CL.is,beq_true]
 |.cell s c,.cell q j,h=>by
  simp only[CL.is]at h
  grind[beq_true]
 |.tmp _ _,.cell _ _,h=>by cases h
 |.cell _ _,.tmp _ _,h=>by cases h
theorem ADN{a b}(h:AKn a b=true):a=b:=by
 cases a<;>cases b<;>simp only[AKn,AF]at h<;>first|(cases h;done)|rw[ay h.1,ADO h.2]|rw[beq_true h]
theorem AKm:∀{a b:List (Nat×Nat)},AXF a b=true->a=b
 | [],[],_=>rfl|(a,b)::r,(j,q)::r',h=>by simp only[AXF,AF]at h;rw[beq_true h.1.1,beq_true h.1.2,AKm h.2]| [],_::_,h=>by cases h
 |_::_,[],h=>by cases h
theorem Td{γ}{x:Option γ}{r}(h:ifB b x=some r):b=true/\x=some r:=by
 grind
theorem AFL{x y}{r}(h:agU x y X=some r):x=y/\X=some r:=by
 cases x<;>cases y<;>simp only[agU]at h<;>first|(cases h;done)|exact⟨rfl,h⟩|skip
 .grind[TT]
 .grind[TT]
 .obtain⟨rfl,j⟩:=TT h;exact⟨rfl,j⟩
 .obtain⟨rfl,j⟩:=TT h;exact⟨rfl,j⟩
 .grind[TT]
 grind[TT]
theorem AIA:∀{x y:List U} {X:Option ρ} {r:ρ},AYs x y X=some r->x=y/\X=some r
 | [],[],X,r,h=>⟨rfl,h⟩|a::x,b::y,X,r,h=>by
  obtain⟨rfl,j⟩:=AFL h;obtain⟨rfl,q⟩:=AIA j;exact⟨rfl,q⟩
 | [],_::_,_,_,h=>by cases h
 |_::_,[],_,_,h=>by cases h
theorem AOt{c j:C}{xs:List c.D}{ys:List j.D}{r:ρ}(h:(if h:j=c then eqv xs (h▸ys) X else none)=some r):(⟨c,xs⟩:(c:C)×List c.D)=⟨j,ys⟩/\X=some r:=by
 grind[TT]
theorem AWX{x y}{r}(h:AYq x y X=some r):x=y/\X=some r:=by
 unfold AYq at h;split at h
 .obtain⟨rfl,j⟩:=AFL h;exact⟨rfl,j⟩
 .exact⟨rfl,h⟩
 .obtain⟨rfl,j⟩:=AFL h;exact⟨rfl,j⟩
 .obtain⟨j,E⟩:=Td h;obtain⟨B,q⟩:=AOt E;cases B;rw[AKm j];exact⟨rfl,q⟩
 .obtain⟨j,h⟩:=Td h
  grind[ay,ADO]
 .obtain⟨j,h⟩:=Td h
  grind[TT,ay,beq_true]
 .obtain⟨j,E⟩:=Td h;obtain⟨B,q⟩:=AOt E;cases B;rw[ADN j];exact⟨rfl,q⟩
 .obtain⟨j,h⟩:=Td h;obtain⟨rfl,q⟩:=AIA h;rw[ADN j];exact⟨rfl,q⟩
 .obtain⟨j,h⟩:=Td h
  grind[beq_true]
 .cases h
theorem tt:∀{x y:List AS} {X:Option ρ} {r:ρ},AWY x y X=some r->x=y/\X=some r
 | [],[],X,r,h=>⟨rfl,h⟩|a::x,b::y,X,r,h=>by
  obtain⟨rfl,j⟩:=AWX h;obtain⟨rfl,q⟩:=tt j;exact⟨rfl,q⟩
 | [],_::_,_,_,h=>by cases h
 |_::_,[],_,_,h=>by cases h
theorem dW{a b}(h:Nat.blt a b=true):a<b:=by simp[Nat.blt]at h;omega
theorem AFK{v}{P:Nat->Ent->Prop}(hP:∀k e q,P k e->P k q->e=q):∀{x y:List (Nat×Ent)} {X:Option ρ} {r:ρ},(∀k e,(k,e)∈x->e.ver<v->P k e)->(∀k e,(k,e)∈y->e.ver<v->P k e)->agE v x y X=some r->fgE R x=fgE R y/\X=some r
 | [],[],X,r,_,_,h=>⟨rfl,h⟩|(k,e)::x,(Q,q)::y,X,r,H,I,h=>by
  simp only[agE]at h;split at h
  .rename_i O;have:=beq_true O;subst this;split at h
   .rename_i G;simp only[AF]at G;have:=hP k e q (H k e (BK ..) (dW G.1)) (I k q (BK ..) (dW G.2));subst this;obtain⟨B,E⟩:=AFK hP (λk e j=>H k e (Af _ j)) (λk e j=>I k e (Af _ j)) h;exact⟨by unfold fgE at B ⊢;rw[AK,AK,B],E⟩
   .obtain⟨J,h⟩:=Td h;obtain⟨L,h⟩:=tt h;obtain⟨B,E⟩:=AFK hP (λk e j=>H k e (Af _ j)) (λk e j=>I k e (Af _ j)) h;exact⟨by unfold fgE at B ⊢;rw[AK,AK,B];simp only[Ent.fg,AXG J,L],E⟩
  .cases h
 | [],_::_,_,_,_,_,h=>by cases h
 |_::_,[],_,_,_,_,h=>by cases h
theorem AFJ{v}{P:Nat->Bx->Prop}(hP:∀k e q,P k e->P k q->e=q):∀{x y:List (Nat×Bx)} {X:Option ρ} {r:ρ},(∀k e,(k,e)∈x->e.ver<v->P k e)->(∀k e,(k,e)∈y->e.ver<v->P k e)->agB v x y X=some r->fgB R x=fgB R y/\X=some r
 | [],[],X,r,_,_,h=>⟨rfl,h⟩|(k,e)::x,(O,q)::y,X,r,H,I,h=>by
  simp only[agB]at h;split at h
  .rename_i L;have:=beq_true L;subst this;split at h
   .rename_i G;simp only[AF]at G;have:=hP k e q (H k e (BK ..) (dW G.1)) (I k q (BK ..) (dW G.2));subst this;obtain⟨B,E⟩:=AFJ hP (λk e j=>H k e (Af _ j)) (λk e j=>I k e (Af _ j)) h;exact⟨by unfold fgB at B ⊢;rw[AK,AK,B],E⟩
   .obtain⟨J,h⟩:=tt h;obtain⟨B,E⟩:=AFJ hP (λk e j=>H k e (Af _ j)) (λk e j=>I k e (Af _ j)) h;exact⟨by unfold fgB at B ⊢;rw[AK,AK,B,J],E⟩
  .cases h
 | [],_::_,_,_,_,_,h=>by cases h
 |_::_,[],_,_,_,_,h=>by cases h
theorem ADp{α}{k}{e}:∀{l:List (Nat×α)},(k,e)∈l->cO k l=true
 |(j,x)::l,h=>by
  simp only[cO];cases q:Nat.beq j k with
  |true=>rfl|false=>
   rcases Ae.1 h with h|h
   .cases h;rw[J4]at q;cases q
   .exact ADp h
theorem Qo{α}{k}{e}:∀{l:List (Nat×α)},my l=true->(k,e)∈l->get l k=some e
 |(j,x)::l,q,h=>by
  simp only[my,AF,A8]at q;simp only[get];rcases Ae.1 h with h|h
  .cases h;rw[J4]
  .cases y:Nat.beq j k with
   |true=>rw[beq_true y,ADp h]at q;cases q.1
   |false=>exact Qo q.2 h
theorem AYr{A B}{r}(hA:Bc S A)(hB:Bc S B)(h:agS S.nv A B X=some r):A.fg R=B.fg R/\X=some r:=by
 obtain⟨E,h⟩:=Td h;simp only[AF]at E;obtain⟨⟨⟨J,L⟩,O⟩,Q⟩:=E;obtain⟨H,h⟩:=AFK (R:=R) (P:=λk e=>get S.tm k=some e) (λk e G h y=>by rw[h]at y;exact Option.some.inj y) (λk e j q=>hA.tm k e (Qo J j) q) (λk e j q=>hB.tm k e (Qo L j) q) h;obtain⟨I,h⟩:=AFJ (R:=R) (P:=λk e=>get S.bx k=some e) (λk e G h y=>by rw[h]at y;exact Option.some.inj y) (λk e j q=>hA.bx k e (Qo O j) q) (λk e j q=>hB.bx k e (Qo Q j) q) h;exact⟨by simp only[St.fg,H,I,hA.pin,hB.pin],h⟩
theorem Ze:∀{x:B4 R} {S:St} {K:St->Option ρ} {r:ρ},evr x S K=some r ->
 ∃S',Bc S S'/\K S'=some r/\∀N:Lv.St->Prop,N (S'.fg R)->runK KG x.er (S.fg R) N
 |.nil,S,K,r,h=>⟨S,Bc.refl _,h,λN hN=>hN⟩|.dr ds x,S,K,r,h=>by
  obtain⟨S',q,j,y⟩:=Ze (x:=x) h;refine⟨S',(Bc.Ir _ _).trans q,j,λN hN=>?_⟩;have:=y N hN;rw[ADL]at this;exact this
 |.nl ns x,S,K,r,h=>by
  obtain⟨S',q,j,y⟩:=Ze (x:=x) h;refine⟨S',(Bc.Rv _ _).trans q,j,λN hN=>?_⟩;have:=y N hN;rw[xx]at this;exact this
 |.both n a b,S,K,r,h=>by
  have h:evr a S (λA=>evr b S λB=>agS S.nv A B (K A))=some r:=by
   cases n with
   |zero=>exact h|succ n=>simpa only[evr,AIC] using h
  obtain⟨A,I,J,a3⟩:=Ze (x:=a) (K:=λA=>evr b S λB=>agS S.nv A B (K A)) h;obtain⟨B,L,O,Q⟩:=Ze (x:=b) (K:=λB=>agS S.nv A B (K A)) J;obtain⟨e,j⟩:=AYr (R:=R) I L O;exact⟨A,I,j,λN hN=>⟨a3 N hN,Q N (e▸hN)⟩⟩
 |.op i g sf o x,S,K,r,h=>by
  have safe:∀{S:St},(if KT o S sf=true then ev o S λS'=>S'.GY λS'=>evr x S' K else none)=some r ->
   ∃S',Bc S S'/\evr x S' K=some r/\∀N:Lv.St->Prop,N (S'.fg R)->(Lv.KT o.er (S.fg R) sf=true/\opK KG o.er (S.fg R) N):=by
   intro S h;split at h
   .rename_i hs;obtain⟨S',q,j,y⟩:=AKr h;rw[FA]at j;exact⟨S',q,j,λN hN=>⟨AEg hs,y N hN⟩⟩
   .cases h
  have key:∃S',Bc S S'/\evr x S' K=some r/\∀N:Lv.St->Prop,N (S'.fg R)->∃b,Lv.wanted (S.fg R) g=some b/\((b=true/\Lv.KT o.er (S.fg R) sf=true/\opK KG o.er (S.fg R) N)\/(b=false/\∃S',Lv.Mz o.er (S.fg R)=some S'/\N S')):=by
   simp only[evr,AZO]at h;split at h
   .obtain⟨S',q,j,y⟩:=safe h;exact⟨S',q,j,λN hN=>⟨true,rfl,.inl ⟨rfl,y N hN⟩⟩⟩
   .rename_i s w;split at h
    .rename_i b v E;rcases AII h with ⟨rfl,G⟩|⟨rfl,G⟩
     .refine UK (K:=λS'=>evr x S' K) (P:=λS N=>Lv.KT o.er S sf=true/\opK KG o.er S N) E w (by cases w<;>rfl) (f:=if KT o (S.lit s true) sf=true then ev o (S.lit s true) λS'=>S'.GY λS'=>evr x S' K else none) ?_ λH=>safe H
      simpa only[FA] using G
     .refine UK (K:=λS'=>evr x S' K) (P:=λS N=>Lv.KT o.er S sf=true/\opK KG o.er S N) E (!w) (by cases w<;>rfl) (f:=if KT o (S.lit s false) sf=true then ev o (S.lit s false) λS'=>S'.GY λS'=>evr x S' K else none) ?_ λH=>safe H
      simpa only[FA] using G
    .rename_i v E;simp only[FA]at h;obtain⟨S',q,j,y⟩:=nk (R:=R) h;exact⟨S',j,y,λN hN=>⟨false,AFC E,.inr ⟨rfl,_,q,hN⟩⟩⟩
    .cases h
  obtain⟨S1,q,j,y⟩:=key;obtain⟨S2,X,Y,Z⟩:=Ze (x:=x) j;exact⟨S2,q.trans X,Y,λN hN=>y _ (Z N hN)⟩
end
end Y
namespace Y
section
variable{R:List GF}{ρ:Type}
variable{c:Cut}{S S':St}
theorem ATs{s}{l}{x}(h:ATr s l=some x):ATq s x=l:=by
 unfold ATr at h;split at h
 .cases h
 .cases h
 .cases h
 .rename_i j q y;cases h;cases s<;>cases x<;>first|rfl|(exact(j _ _ rfl).elim)|(exact(q rfl).elim)|(exact(y _ rfl).elim)
 .split at h
  .cases h;rfl
  .cases h
 .split at h
  .cases h;rfl
  .cases h
 .split at h
  .cases h
  .split at h
   .rename_i B;subst B;cases h;rfl
   .cases h
 .cases h
theorem sS{s}:∀{ls:List AS} {us:List U},xp s ls=some us->us.map (ATq s)=ls
 | [],us,h=>by cases h;rfl
 |l::ls,us,h=>by
  simp only[xp]at h;split at h
  .rename_i x xs j q;cases h;rw[AK,ATs j,sS q]
  .cases h
theorem AYl{a:AL}{ls}{x}(h:a.un ls=some x):a.leaf x=ls:=by
 cases a with
 |val c s=>
  simp only[AL.un]at h;split at h
  .rename_i us q;simp only[AL.leaf];rw[ag h,sS q]
  .cases h
 |num k=>
  simp only[AL.un]at h;split at h
  .split at h
   .rename_i j;subst j;cases h;rfl
   .cases h
  .cases h
 |al r=>
  simp only[AL.un]at h;split at h
  .split at h
   .rename_i j;subst j;rfl
   .cases h
  .cases h
theorem zP:∀{as:List AL} {ls:List AS} {x:TA as},AYB as ls=some x->Oh as x=ls
 | [],ls,x,h=>by
  cases ls with
  |nil=>rfl|cons l ls=>cases h
 | [a],ls,x,h=>AYl h|a::j::as,ls,x,h=>by
  simp only[AYB]at h;split at h
  .rename_i y z q B;cases h;show a.leaf y++Oh (j::as) z=ls;rw[AYl q,zP B,Cb]
  .cases h
theorem MI{b}{k}:∀{c:Cut} {ls:List AS},O3 b k c=false->look b k (seg c ls)=none
 | [],ls,h=>rfl|(j,d,sh,as)::c,ls,h=>by
  simp only[O3]at h;simp only[seg,look];split at h
  .cases h
  .exact MI h
theorem Zj{S}{k}:∀{c:Cut} {ls:List AS},Ra S c=some ls->O3 false k c=true->∃e,get S.tm k=some e/\look false k (seg c ls)=some (e.sh,e.cs)
 | [],ls,h,j=>by cases j
 |(false,d,sh,as)::c,ls,h,j=>by
  simp only[Ra]at h;split at h
  .rename_i e ls' B y;split at h
   .rename_i q;cases h;simp only[O3]at j;simp only[seg,look];split at j
    .rename_i E;have H:d=k:=by simpa[RM] using E
     subst H;refine⟨e,B,?_⟩;rw[Ce q.2,Ys q.1]
    .rename_i E;rw[Cw q.2];exact Zj y j
   .cases h
  .cases h
 |(true,d,sh,as)::c,ls,h,j=>by
  simp only[Ra]at h;split at h
  .rename_i e ls' B y;split at h
   .rename_i q;cases h;have G:((true:Bool)==false)=false:=rfl;simp only[O3,G,By]at j;simp only[seg,look,G,By];rw[Cw q];exact Zj y j
   .cases h
  .cases h
theorem Zi{S}{k}:∀{c:Cut} {ls:List AS},Ra S c=some ls->O3 true k c=true->∃e sh,get S.bx k=some e/\look true k (seg c ls)=some (sh,e.cs)
 | [],ls,h,j=>by cases j
 |(true,d,sh,as)::c,ls,h,j=>by
  simp only[Ra]at h;split at h
  .rename_i e ls' B y;split at h
   .rename_i q;cases h;simp only[O3]at j;simp only[seg,look];split at j
    .rename_i E;have H:d=k:=by simpa[RM] using E
     subst H;refine⟨e,sh,B,?_⟩;rw[Ce q]
    .rename_i E;rw[Cw q];exact Zi y j
   .cases h
  .cases h
 |(false,d,sh,as)::c,ls,h,j=>by
  simp only[Ra]at h;split at h
  .rename_i e ls' B y;split at h
   .rename_i q;cases h;have G:((false:Bool)==true)=false:=rfl;simp only[O3,G,By]at j;simp only[seg,look,G,By];rw[Cw q.2];exact Zi y j
   .cases h
  .cases h
theorem ALd{q}{a}{v}:∀{l:List (Nat×Ent)},(∀k e,(k,e)∈l->look false k q=some (e.sh,e.cs)\/(look false k q=none/\get a k=some e))->fgE R (nU q a v l)=fgE R l
 | [],_=>rfl|(k,e)::l,h=>by
  have y:=ALd (v:=v) (l:=l) (λk e E=>h k e (Af _ E));simp only[fgE,nU,AK]at y ⊢;rw[y];rcases h k e (by simp) with j|⟨j,B⟩
  .rw[j];rfl
  .rw[j,B]
theorem ALc{q}{a}{v}:∀{l:List (Nat×Bx)},(∀k e,(k,e)∈l->(∃sh,look true k q=some (sh,e.cs))\/(look true k q=none/\get a k=some e))->fgB R (nS q a v l)=fgB R l
 | [],_=>rfl|(k,e)::l,h=>by
  have y:=ALc (v:=v) (l:=l) (λk e E=>h k e (Af _ E));simp only[fgB,nS,AK]at y ⊢;rw[y];rcases h k e (by simp) with ⟨sh,j⟩|⟨j,B⟩
  .rw[j]
  .rw[j,B]
theorem aR{α}{k}{e}:∀{l:List (Nat×α)},(k,e)∈l->cO k l=true
 |(j,x)::l,h=>by
  simp only[cO];cases q:Nat.beq j k with
  |true=>rfl|false=>
   rcases Ae.1 h with h|h
   .cases h;exact(beq_false q rfl).elim
   .exact aR h
theorem tH{c}{a}:∀{l:List (Nat×Ent)} {k:Nat} {e:Ent},ALh c a l=true->(k,e)∈l->get l k=some e/\(O3 false k c=true\/(O3 false k c=false/\∃y,get a k=some y/\e.ver=y.ver))
 |(j,x)::l,k,e,h,q=>by
  simp only[ALh,AF,A8]at h;obtain⟨⟨E,G⟩,B⟩:=h;rcases Ae.1 q with q|q
  .grind[Prod.mk.injEq,get,Nat.beq,RM,O3,beq_true]
  .obtain⟨H,I⟩:=tH B q
   grind[get,Nat.beq,beq_true,aR]
theorem tG{c}{a}:∀{l:List (Nat×Bx)} {k:Nat} {e:Bx},ALg c a l=true->(k,e)∈l->get l k=some e/\(O3 true k c=true\/(O3 true k c=false/\∃y,get a k=some y/\e.ver=y.ver))
 |(j,x)::l,k,e,h,q=>by
  simp only[ALg,AF,A8]at h;obtain⟨⟨E,G⟩,B⟩:=h;rcases Ae.1 q with q|q
  .grind[Prod.mk.injEq,get,Nat.beq,RM,O3,beq_true]
  .obtain⟨H,I⟩:=tG B q
   grind[get,Nat.beq,beq_true,aR]
theorem AO6{a b}(h:Nat.blt a b=true):a<b:=Im h
theorem ALt{v}:∀{l:List (Nat×Ent)} {k:Nat} {e:Ent},wfE v l=true->get l k=some e->e.ver<v
 |(j,x)::l,k,e,h,q=>by
  simp only[wfE,AF]at h;simp only[get]at q;split at q
  .cases q;exact AO6 h.1
  .exact ALt h.2 q
theorem ALs{v}:∀{l:List (Nat×Bx)} {k:Nat} {e:Bx},wfB v l=true->get l k=some e->e.ver<v
 |(j,x)::l,k,e,h,q=>by
  simp only[wfB,AF]at h;simp only[get]at q;split at q
  .cases q;exact AO6 h.1
  .exact ALs h.2 q
structure FQ(c:Cut)(S S':St):Prop where
 tm:∀k e,O3 false k c=false->get S'.tm k=some e->e.ver<S.nv->get S.tm k=some e
 bx:∀k e,O3 true k c=false->get S'.bx k=some e->e.ver<S.nv->get S.bx k=some e
 pin:S'.pin=S.pin
theorem FQ.of(h:Bc S S'):FQ c S S':=⟨λk e _=>h.tm k e,λk e _=>h.bx k e,h.pin⟩
theorem vI{x}(h:c.fit S S'=some x)(H:FQ c S S') :
 (c.st S S' x).fg R=S'.fg R /\
 (∀k e,(k,e)∈S'.tm->look false k (seg c (Oh c.as x))=some (e.sh,e.cs)\/(look false k (seg c (Oh c.as x))=none/\get S.tm k=some e)) /\
 (∀k e,(k,e)∈S'.bx->(∃sh,look true k (seg c (Oh c.as x))=some (sh,e.cs))\/(look true k (seg c (Oh c.as x))=none/\get S.bx k=some e)):=by
 unfold Cut.fit at h;split at h
 .rename_i Q;obtain⟨w1,Y,s1,X⟩:=Q;split at h
  .rename_i ls J;rw[zP h];have hE:∀k e,(k,e)∈S'.tm->look false k (seg c ls)=some (e.sh,e.cs)\/(look false k (seg c ls)=none/\get S.tm k=some e):=by
    intro k e I;obtain⟨q,j⟩:=tH s1 I;rcases j with j|⟨j,L,B,E⟩
    .obtain⟨O,y,G⟩:=Zj J j;rw[q]at y;cases y;exact .inl G
    .exact .inr ⟨MI j,H.tm k e j q (by rw[E];exact ALt w1 B)⟩
   have hB:∀k e,(k,e)∈S'.bx->(∃sh,look true k (seg c ls)=some (sh,e.cs))\/(look true k (seg c ls)=none/\get S.bx k=some e):=by
    intro k e I;obtain⟨q,j⟩:=tG X I;rcases j with j|⟨j,L,B,E⟩
    .obtain⟨O,sh,y,G⟩:=Zi J j;rw[q]at y;cases y;exact .inl ⟨sh,G⟩
    .exact .inr ⟨MI j,H.bx k e j q (by rw[E];exact ALs Y B)⟩
   refine⟨?_,hE,hB⟩;simp only[St.fg,Cut.st,zP h];rw[ALd hE,ALc hB,H.pin]
  .cases h
 .cases h
theorem aw{q}{a}{v}:∀{l l':List (Nat×Ent)},My l l'=true->(∀k e,(k,e)∈l'->look false k q=some (e.sh,e.cs)\/(look false k q=none/\get a k=some e))->nU q a v l=nU q a v l'
 | [],[],_,_=>rfl| [],_::_,h,_=>by cases h
 |_::_,[],h,_=>by cases h
 |(k,e)::l,(I,G)::l',h,B=>by
  simp only[My,AF]at h;obtain⟨j,y⟩:=h;have:=beq_true j;subst this;have H:=aw (v:=v) y (λk e E=>B k e (Af _ E))
  grind[nU]
theorem av{q}{a}{v}:∀{l l':List (Nat×Bx)},My l l'=true->(∀k e,(k,e)∈l'->(∃sh,look true k q=some (sh,e.cs))\/(look true k q=none/\get a k=some e))->nS q a v l=nS q a v l'
 | [],[],_,_=>rfl| [],_::_,h,_=>by cases h
 |_::_,[],h,_=>by cases h
 |(k,e)::l,(I,G)::l',h,B=>by
  simp only[My,AF]at h;obtain⟨j,y⟩:=h;have:=beq_true j;subst this;have H:=av (v:=v) y (λk e E=>B k e (Af _ E))
  grind[nS]
theorem lT{q:List (Bool×Nat×Sh×List AS)}{a:List (Nat×Ent)}{v k:Nat}(G:look false k q=none):∀{l:List (Nat×Ent)} {y:Ent},get (nU q a v l) k=some y->∃e,get l k=some e/\y=(match get a k with|some B=>B|none=>e)
 |(j,x)::l,y,h=>by
  simp only[nU,get]at h ⊢;cases E:Nat.beq j k with
  |true=>
   grind[beq_true,Option.some.inj]
  |false=>rw[E]at h;exact lT G h
theorem lS{q:List (Bool×Nat×Sh×List AS)}{a:List (Nat×Bx)}{v k:Nat}(G:look true k q=none):∀{l:List (Nat×Bx)} {y:Bx},get (nS q a v l) k=some y->∃e,get l k=some e/\y=(match get a k with|some B=>B|none=>e)
 |(j,x)::l,y,h=>by
  simp only[nS,get]at h ⊢;cases E:Nat.beq j k with
  |true=>
   grind[beq_true,Option.some.inj]
  |false=>rw[E]at h;exact lS G h
theorem FQ.round{x:TA c.as}(h:Bc (c.st S S x) S'):FQ c S S':=by
 refine⟨λk e G E j=>?_,λk e G E j=>?_,h.pin⟩
 .have q:=h.tm k e E (KI j);obtain⟨H,y,B⟩:=lT (MI G) q
  grind
 .have q:=h.bx k e E (KI j);obtain⟨H,y,B⟩:=lS (MI G) q;rw[y]at B;subst B;exact y
theorem rl{y}(h:c.fit S S'=some y)(j:FQ c S S')(q:My S.tm S'.tm=true)(B:My S.bx S'.bx=true):(c.st S S y).fg R=S'.fg R:=by
 obtain⟨E,G,H⟩:=vI (R:=R) h j
 grind[St.fg,Cut.st,aw,av]
theorem aV{b}{k}:∀{c:Cut} {ls:List AS},O3 b k c=true->∃p,look b k (seg c ls)=some p
 |(j,d,sh,as)::c,ls,h=>by
  simp only[O3]at h;simp only[seg,look];split at h
  .exact⟨_,rfl⟩
  .exact aV h
theorem AEY{q:List (Bool×Nat×Sh×List AS)}{a:List (Nat×Ent)}{v k:Nat}{p:Sh×List AS}(E:look false k q=some p):∀{l:List (Nat×Ent)} {y:Ent},get (nU q a v l) k=some y->v<=y.ver
 |(j,z)::l,y,h=>by
  simp only[nU,get]at h;cases B:Nat.beq j k with
  |true=>
   grind[beq_true]
  |false=>rw[B]at h;exact AEY E h
theorem AEX{q:List (Bool×Nat×Sh×List AS)}{a:List (Nat×Bx)}{v k:Nat}{p:Sh×List AS}(E:look true k q=some p):∀{l:List (Nat×Bx)} {y:Bx},get (nS q a v l) k=some y->v<=y.ver
 |(j,z)::l,y,h=>by
  simp only[nS,get]at h;cases B:Nat.beq j k with
  |true=>
   grind[beq_true]
  |false=>rw[B]at h;exact AEX E h
theorem Bc.st{x}(I:Bc S S'):Bc S (c.st S S' x):=by
 refine⟨by simp[Cut.st],λk e B E=>?_,λk e B E=>?_,rfl⟩
 .cases j:O3 false k c with
  |false=>
   obtain⟨J,G,q⟩:=lT (MI j) B;cases y:get S.tm k with
   |some L=>rw[y]at q;subst q;rfl|none=>
    rw[y]at q;subst q;have:=I.tm k _ G E;rw[y]at this;cases this
  |true=>
   obtain⟨p,H⟩:=aV (ls:=Oh c.as x) j;exact absurd E (PD.2 (AEY H B))
 .cases j:O3 true k c with
  |false=>
   obtain⟨J,G,q⟩:=lS (MI j) B;cases y:get S.bx k with
   |some L=>rw[y]at q;subst q;rfl|none=>
    rw[y]at q;subst q;have:=I.bx k _ G E;rw[y]at this;cases this
  |true=>
   obtain⟨p,H⟩:=aV (ls:=Oh c.as x) j;exact absurd E (PD.2 (AEX H B))
theorem AEp{γ:Type}:∀(l:List (Nat×Ent)) (K:List (Nat×Ent)->γ),AVw l K=K (l.map λp=>(p.1,⟨.one,[],0⟩))| [],K=>rfl|(k,_)::r,K=>AEp r _
theorem AEo{γ:Type}:∀(l:List (Nat×Bx)) (K:List (Nat×Bx)->γ),AVv l K=K (l.map λp=>(p.1,⟨[],0⟩))| [],K=>rfl|(k,_)::r,K=>AEo r _
theorem az{α:Type}(z:α):∀l:List (Nat×α),My (l.map λp=>(p.1,z)) l=true| []=>rfl|(k,_)::r=>by simp only[AK,My,az z r,J4,Bool.and_self]
theorem AX6{x:TA c.as}(j:∀k e,(k,e)∈S'.tm->look false k (seg c (Oh c.as x))=some (e.sh,e.cs)\/(look false k (seg c (Oh c.as x))=none/\get S.tm k=some e))
 (q:∀k e,(k,e)∈S'.bx->(∃sh,look true k (seg c (Oh c.as x))=some (sh,e.cs))\/(look true k (seg c (Oh c.as x))=none/\get S.bx k=some e)) :
 c.st S ⟨S'.tm.map λp=>(p.1,⟨.one,[],0⟩),S'.bx.map λp=>(p.1,⟨[],0⟩),[],0⟩ x=c.st S S' x:=by
 unfold Cut.st;dsimp only;rw[aw (az _ _) j,av (az _ _) q]
theorem AZ0{d p c e}{K:St->Option ρ}{r}(h:S.see d p c e K=some r):∃S',(S.fg R).see d p c e=S'.fg R/\Bc S S'/\K S'=some r:=by
 unfold St.see at h;split at h
 .rename_i b q xs I G;split at h
  .rename_i E H;rw[uF]at h;obtain⟨x,y,h⟩:=Option.bind_eq_some_iff.1 h;split at h
   .rename_i q' ys J;refine⟨_,?_,Bc.Bi _ _ _,h⟩;have j:=E7 (R:=R) I;simp only[YO.er,AS.fg]at j;have B:at2 (xs.map (enc q)) ((xs.map (enc q)).length-1) c=some (.sl q'.size (ys.map (enc q'))):=by
     rw[List.getLast?_eq_getElem?]at y;simp only[at2,Ac,A0,y,Ap,FY,J,U.fg]
    simp only[Lv.St.see,j,Jx,G,E,Ap,AS.fg,U.fg,B];rw[AW (E0 H),GQ];rfl
   .cases h
  .cases h
 .cases h
theorem Eg:∀{x:HG R} {S:St} {K:Ex->St->Option ρ} {r:ρ} {Q:Ex->Lv.St->Prop},IN x S K=some r->(∀e S',Bc S S'->K e S'=some r->Q e (S'.fg R))->wp KG x.er (S.fg R) Q
 |.skip,S,K,r,Q,h,hQ=>hQ _ _ (Bc.refl _) h|.region ops FD,S,K,r,Q,h,hQ=>by
  obtain⟨S',O,B,G⟩:=vH (show evs ops S _=some r from h);rw[FA]at B;refine G _ ⟨S'.clo 6 (S'.pin++FD),?_⟩;rw[<-Sr];exact hQ _ _ (O.trans (Bc.clean _ _)) B
 |.Vi x FD,S,K,r,Q,h,hQ=>by
  obtain⟨S',O,B,G⟩:=Ze (show evr x S _=some r from h);rw[FA]at B;refine G _ ⟨S'.clo 6 (S'.pin++FD),?_⟩;rw[<-Sr];exact hQ _ _ (O.trans (Bc.clean _ _)) B
 |.seq a b,S,K,r,Q,h,hQ=>by
  refine Eg (x:=a) (show IN a S _=some r from h) λe S' q j=>?_
  cases e with
  |n=>exact Eg (x:=b) j λe S2 E B=>hQ _ _ (q.trans E) B|x i=>exact hQ _ _ q j|r=>exact hQ _ _ q j
 |.join c a b,S,K,r,Q,h,hQ=>by
  refine Eg (x:=a) (show IN a S _=some r from h) λe S' q j=>?_
  cases e with
  |n=>
   dsimp only at j ⊢;split at j
   .rename_i x hx;obtain⟨G,Y,Z⟩:=vI (R:=R) hx (FQ.of q);rw[AEp,AEo,ATi,FA,AX6 Y Z]at j;rw[<-G];refine Eg (x:=b) j λe S2 E B=>hQ _ _ ?_ B
    exact(Bc.st q).trans E
   .cases j
  |x i=>exact hQ _ _ q j|r=>exact hQ _ _ q j
 |.cond c kt ke t e,S,K,r,Q,h,hQ=>by
  simp only[IN]at h;split at h
  .rename_i b hb;have hs:=Pb (R:=R) hb;simp only[YO.er,U.fg]at hs;rcases AII h with ⟨rfl,j⟩|⟨rfl,j⟩
   .rw[FA]at j;refine⟨true,hs,S.clo 6 (S.pin++kt),?_⟩;rw[AW rfl,<-Sr];exact Eg (x:=t) j λe S2 E B=>hQ _ _ ((Bc.clean _ _).trans E) B
   .rw[FA]at j;refine⟨false,hs,S.clo 6 (S.pin++ke),?_⟩;rw[AT (by simp),<-Sr];exact Eg (x:=e) j λe S2 E B=>hQ _ _ ((Bc.clean _ _).trans E) B
  .cases h
 |.block id b,S,K,r,Q,h,hQ=>by
  refine Eg (x:=b) (show IN b S _=some r from h) λe S' q j=>?_
  cases e with
  |n=>exact hQ _ _ q j|x i=>
   dsimp only at j ⊢;split at j
   .rename_i hi;rw[AW hi];exact hQ _ _ q j
   .rename_i hi;rw[AT hi];exact hQ _ _ q j
  |r=>exact hQ _ _ q j
 |.loop c b,S,K,r,Q,h,hQ=>by
  simp only[IN]at h;split at h
  .rename_i x0 J;have key:∀(n:Nat) (x:TA c.as),A9 (λL x=>(c.st S S x).GY λS1=>IN b S1 λe S'=>match e with
    |.n=>if My S.tm S'.tm=true/\My S.bx S'.bx=true then (match c.fit S S' with|some y=>L y|none=>none) else none
    |.x i=>K (.x i) S'|.r=>K .r S') n x=some r->ALH (wp KG b.er) n ((c.st S S x).fg R) Q:=by
    intro n
    induction n with
    |zero=>intro x h;rw[ALI]at h;cases h
    |succ n ih=>
     intro x h;rw[DW]at h;rw[FA]at h;refine Eg (x:=b) h λe S' q j=>?_
     have hS:Bc S (c.st S S x):=Bc.st (Bc.refl S);cases e with
     |n=>
      dsimp only at j ⊢;split at j
      .rename_i H;split at j
       .rename_i y hy;rw[<-rl hy (FQ.round q) H.1 H.2];exact ih y j
       .cases j
      .cases j
     |x i=>exact hQ _ _ (hS.trans q) j|r=>exact hQ _ _ (hS.trans q) j
   refine⟨big,?_⟩;obtain⟨G,_,_⟩:=vI (R:=R) J (FQ.of (Bc.refl S));rw[<-G];exact key big x0 h
  .cases h
 |.exit id,S,K,r,Q,h,hQ=>hQ _ _ (Bc.refl _) h|.ret,S,K,r,Q,h,hQ=>hQ _ _ (Bc.refl _) h|.scope b,S,K,r,Q,h,hQ=>Eg (x:=b) (show IN b S K=some r from h) hQ|.or a b,S,K,r,Q,h,hQ=>(AZq (show orX (IN a S K) (IN b S K)=some r from h)).elim (λh=>.inl (Eg (x:=a) h hQ)) λh=>.inr (Eg (x:=b) h hQ)|.dead,S,K,r,Q,h,hQ=>by cases h
 |.AUN c b,S00,K,r,Q,h,hQ=>by
  refine⟨big+1,?_⟩;refine Eg (x:=b) (show IN b S00 _=some r from h) λe S I h=>?_
  cases e with
  |n=>
   dsimp only at h ⊢;split at h
   .rename_i x0 J;have key:∀(n:Nat) (x:TA c.as),A9 (λL x=>(c.st S S x).GY λS1=>IN b S1 λe S'=>match e with
     |.n=>if My S.tm S'.tm=true/\My S.bx S'.bx=true then (match c.fit S S' with|some y=>L y|none=>none) else none
     |.x i=>K (.x i) S'|.r=>K .r S') n x=some r->ALH (wp KG b.er) n ((c.st S S x).fg R) Q:=by
     intro n
     induction n with
     |zero=>intro x h;rw[ALI]at h;cases h
     |succ n ih=>
      intro x h;rw[DW]at h;rw[FA]at h;refine Eg (x:=b) h λe S' q j=>?_
      have hS:Bc S (c.st S S x):=Bc.st (Bc.refl S);cases e with
      |n=>
       dsimp only at j ⊢;split at j
       .rename_i H;split at j
        .rename_i y hy;rw[<-rl hy (FQ.round q) H.1 H.2];exact ih y j
        .cases j
       .cases j
      |x i=>exact hQ _ _ (I.trans (hS.trans q)) j|r=>exact hQ _ _ (I.trans (hS.trans q)) j
    obtain⟨G,_,_⟩:=vI (R:=R) J (FQ.of (Bc.refl S));rw[<-G];exact key big x0 h
   .cases h
  |x i=>exact hQ _ _ I h|r=>exact hQ _ _ I h
 |.Ty a b FD d p c e,S,K,r,Q,h,hQ=>by
  obtain⟨S1,O,B,G⟩:=vH (show evs a S _=some r from h);split at B
  .rename_i id hid;split at B
   .rename_i bx hb;obtain⟨S2,Y,Z,h6⟩:=vH B;obtain⟨S3,k1,k2,k3⟩:=AZ0 (R:=R) Z;rw[FA]at k3;have X:=E7 (R:=R) hid;refine G _ ⟨⟨id,X,by rw[PO,hb];rfl⟩,h6 _ ⟨S3.clo 6 (S3.pin++FD),?_⟩⟩;rw[k1,<-Sr];exact hQ _ _ (((O.trans Y).trans k2).trans (Bc.clean _ _)) k3
   .cases B
  .cases B
end
end Y
namespace Y
section
variable{R:List GF}{ρ:Type}
def Aaf:C->Bool|.st _=>true|.un _=>true|_=>false
def AAI:List (Bool×C)->Bool| []=>true|(true,_)::r=>AAI r|(false,c)::r=>(!Aaf c&&decide (c≠.m))&&AAI r
def AEH:List PK->Bool| []=>true|.f _ l::r=>AAI l&&AEH r|_::r=>AEH r
theorem uL i :∀(l:List (Bool×C)) (x:tk l),AAI l=true->Lv.Pj i (Sp l x)=some ((Pj i l x).map Cap.fg)
 | [],x,h=>rfl|(true,c)::l,x,h=>by
  have j:=uL i l x.2 h;simp only[Sp,Lv.Pj,Pj,AK,Cap.fg];rw[j,FY];rfl
 |(false,c)::l,x,h=>by
  simp only[AAI,AF,A8,decide_eq_true_eq]at h;have j:=uL i l x.2 h.2;cases c with
  |st n=>cases h.1.1
  |un n=>cases h.1.1
  |m=>exact(h.1.2 rfl).elim|_=>
   simp only[Sp,enc,Lv.Pj,Pj,cells,AK,j];rfl
theorem AVs c  x :Gn (shC c) (enc c x).length=true:=by
 rw[PM];cases c<;>rfl
theorem Oe:∀(ks:List PK) (i:Nat) (fs:List Nat) (a:A ks) (S:St),AEH ks=true->fs.map (λn=>(R[n]?).map GF.x)=(fX ks).map some ->
 Lv.initK i (ks.map PK.md) (aVs ks a) (S.fg R)=some ((initK i fs ks a S).fg R)
 | [],i,fs,a,S,_,_=>rfl|k::ks,i,fs,a,S,B,y=>by
  obtain⟨j,E⟩:=a;cases k with
  |v c=>
   have hE:enc c j=(cells c j).map U.fg:=FY c j;have q:=Oe ks (i+1) fs E (S.Kl i (shC c) ((cells c j).map (Eh i))) B y;rw[Mb,Qk,<-hE]at q;exact q
  |p c=>
   have hE:enc c j=(cells c j).map U.fg:=FY c j;have q:=Oe ks (i+1) fs E (S.Kl i .one [.vp (.old i) (cells c j)]) B y;rw[Mb]at q;simp only[AK,Ba,AS.fg]at q;rw[<-hE]at q;exact q
  |b c=>
   have hE:enc c j=(cells c j).map U.fg:=FY c j;have q:=Oe ks (i+1) fs E (let S1:=(S.Kl i .one [.bp i 0]).O7 i ((cells c j).map (Eh i));⟨S1.tm,S1.bx,i::S1.pin,S1.nv⟩) B y;have e:(let S1:=(S.Kl i .one [.bp i 0]).O7 i ((cells c j).map (Eh i));(⟨S1.tm,S1.bx,i::S1.pin,S1.nv⟩:St)).fg R={ S.fg R with tm:=Lv.put (S.fg R).tm i ⟨.one,[.bp i 0]⟩,bx:=Lv.put (S.fg R).bx i ((enc c j).map (Lv.Eh i)),pin:=i::(S.fg R).pin}:=by
    have G:=Uo (R:=R) (S.Kl i .one [.bp i 0]) i ((cells c j).map (Eh i));rw[Mb,Qk,<-hE]at G;have H:=congrArg Lv.St.tm G;have I:=congrArg Lv.St.bx G;simp only[St.fg]at H I ⊢;rw[H,I];rfl
   rw[e]at q;exact q
  |o c=>
   have hE:enc c j=(cells c j).map U.fg:=FY c j;have q:=Oe ks (i+1) fs E (S.Kl i (shC c) ((cells c j).map KR)) B y;rw[Mb,aY,<-hE]at q;exact q
  |m c=>
   have hE:enc c j=(cells c j).map U.fg:=FY c j;have q:=Oe ks (i+1) fs E (let S1:=S.Kl i (shC c) ((cells c j).map KR);⟨S1.tm,S1.bx,i::S1.pin,S1.nv⟩) B y;have e:(let S1:=S.Kl i (shC c) ((cells c j).map KR);(⟨S1.tm,S1.bx,i::S1.pin,S1.nv⟩:St)).fg R={ S.fg R with tm:=Lv.put (S.fg R).tm i ⟨shC c,(enc c j).map Lv.KR⟩,pin:=i::(S.fg R).pin}:=by
    have G:=Mb (R:=R) S i (shC c) ((cells c j).map KR);rw[aY,<-hE]at G;have H:=congrArg Lv.St.tm G;simp only[St.fg]at H ⊢;rw[H];rfl
   rw[e]at q;have O:Gn (shC c) (enc c j).length=true:=AVs c j;show (if Gn (shC c) (enc c j).length=true then _ else none)=_;rw[AW O];exact q
  |f x l=>
   simp only[AEH,AF]at B;cases fs with
   |nil=>simp[fX]at y|cons n fs=>
    simp only[fX,AK,CE]at y;have Q:xr R n=x:=by
     unfold xr;cases J:R[n]? with
     |none=>rw[J]at y;simp at y|some g=>rw[J]at y;simpa using y.1
    have q:=Oe ks (i+1) fs E (S.Kl i .one [.fn n (Pj i l j)]) B.2 y.2;rw[Mb]at q;have L:Lv.Pj i (Sp l j)=some ((Pj i l j).map Cap.fg):=uL i l j B.1;show (match Lv.Pj i (Sp l j) with|some ls=>Lv.initK (i+1) _ _ _|none=>none)=_;rw[L];simp only[AK,Ba,AS.fg,Q]at q;exact q
theorem Nr:∀{rs:List IP} {S:St} {K:List (Option Nat)->List AS->Option ρ} {r:ρ},Mx rs S K=some r->∃ns ls,Lv.Mx rs (S.fg R)=some (ns,ls.map (AS.fg R))/\K ns ls=some r
 | [],S,K,r,h=>⟨[],[],rfl,h⟩|.tmp t::rs,S,K,r,h=>by
  simp only[Mx]at h;split at h
  .rename_i e y;split at h
   .rename_i E;obtain⟨ns,ls,j,q⟩:=Nr h;refine⟨_,_,?_,q⟩;have:=Lu (R:=R) y;simp only[YO.er]at this;simp only[Lv.Mx,this,j,En.fg,Ac,E,if_true,Cx];rfl
   .cases h
  .cases h
 |.cell t n::rs,S,K,r,h=>by
  simp only[Mx]at h;split at h
  .rename_i id o y;obtain⟨ls',j,h⟩:=PW (R:=R) h;obtain⟨ns,ls,q,B⟩:=Nr h;refine⟨_,_,?_,B⟩;have:=E7 (R:=R) y;simp only[YO.er,AS.fg]at this j;simp only[Lv.Mx,this,j,q,Cx]
  .cases h
 |.bx _::rs,S,K,r,h=>by cases h
 |.vw _ _::rs,S,K,r,h=>by cases h
 |.un _ _::rs,S,K,r,h=>by cases h
theorem sa:∀{ls:List AS},Ok ls=true->Lv.Ok (ls.map (AS.fg R))=true
 | [],_=>rfl|l::ls,h=>by
  simp only[Ok,AF]at h;simp only[AK,Lv.Ok,AF];refine⟨?_,sa h.2⟩;have j:=h.1
  grind[AS.fg,mR]
theorem AXx{rk}{rs}{S}{K:St->List U->Option ρ}{r}(h:dP rk rs S K=some r):∃S' us,Lv.dP rs (S.fg R)=some (S'.fg R,rk.sh,us.map U.fg)/\K S' us=some r:=by
 unfold dP at h;split at h
 .rename_i k c t;split at h
  .rename_i id y;have j:=E7 (R:=R) y;simp only[YO.er,AS.fg]at j;split at h
   .rename_i ls Y;split at h
    .cases h
    .rename_i L;split at h
     .rename_i E;split at h
      .rename_i us G;subst E;refine⟨S,us,?_,h⟩;have O:id∉(S.fg R).pin:=λX=>L (mem_iff.2 X)
       simp only[Lv.dP,j,PO,Y,Ap,Og,QD G];rw[AT O];rfl
      .cases h
     .cases h
   .cases h
  .cases h
 .rename_i k c t k';split at h
  .rename_i E;subst E;split at h
   .rename_i k'' c' xs y;have j:=E7 (R:=R) y;simp only[YO.er,AS.fg]at j;split at h
    .rename_i E;subst E;exact⟨S,_,by simp only[Lv.dP,j,if_true];rfl,h⟩
    .cases h
   .rename_i q sub y;have j:=E7 (R:=R) y;simp only[YO.er,AS.fg]at j;split at h
    .rename_i x Z;refine⟨_,_,?_,h⟩;simp only[Lv.dP,j,Jx,Z,Ap,AS.fg,V6,AK,Ba,Y1];rfl
    .cases h
   .cases h
  .cases h
 .rename_i n c cs t n' r' rs;split at h
  .rename_i J;subst J;split at h
   .rename_i id o y;have B:=E7 (R:=R) y;obtain⟨ls',Q,h⟩:=PW (R:=R) h;simp only[YO.er,AS.fg]at B Q;split at h
    .rename_i L;obtain⟨ns,ls,j,h⟩:=Nr (R:=R) h;split at h
     .rename_i I;split at h
      .rename_i S' us G;obtain⟨H,_⟩:=Ma (R:=R) G;refine⟨S',_,?_,h⟩;simp only[Lv.dP,B,Q];rw[AW (sa L),j];dsimp only;rw[H,I];simp only[Cx,Ff];rfl
      .cases h
     .cases h
    .cases h
   .cases h
  .cases h
 .rename_i cs;obtain⟨ns,ls,j,h⟩:=Nr (R:=R) h;split at h
  .rename_i I;split at h
   .rename_i S' us G;obtain⟨H,_⟩:=Ma (R:=R) G;refine⟨S',us,?_,h⟩;have:Lv.dP rs (S.fg R)=match Lv.Mx rs (S.fg R) with
     |some (ns,ls)=>(match Lv.D1 (S.fg R) ls with|some (S',cs)=>some (S',AEm ns,cs)|none=>none)
     |none=>none:=by
     rcases rs with _|⟨a,_|⟨b,rs⟩⟩
     .rfl
     .cases a<;>first|rfl|(simp[Lv.Mx]at j)
     .cases a<;>first|rfl|(simp[Lv.Mx]at j)
    rw[this,j];dsimp only;rw[H,I];rfl
   .cases h
  .cases h
 .cases h
theorem AZs{l}{u}(h:owT l=some u):Lv.owT (AS.fg R l)=some u.fg:=by
 cases l with
 |ow x=>cases h;rfl
 |t x=>
  grind[owT,AS.fg,Lv.owT,mR]
 |_=>cases h
theorem ALR:∀{ls:List AS} {us:List U},dO ls=some us->Lv.dO (ls.map (AS.fg R))=some (us.map U.fg)/\us.length=ls.length
 | [],us,h=>by cases h;exact⟨rfl,rfl⟩
 |l::ls,us,h=>by
  simp only[dO]at h;split at h
  .rename_i x xs j q;cases h;obtain⟨y,B⟩:=ALR q;simp only[AK,Lv.dO,AZs j,y,AI,B];exact⟨trivial,trivial⟩
  .cases h
theorem fA{k}:∀{ls:List AS} {us:List U},F6 k ls=some us->us.length=ls.length
 | [],us,h=>by cases h;rfl
 |l::ls,us,h=>by
  simp only[F6]at h;split at h
  .rename_i x xs q j;cases h;simp only[AI,fA j]
  .cases h
def chunks:List C->List U->List (List U)| [],_=>[]|c::cs,us=>us.take c.size::chunks cs (us.drop c.size)
theorem fH:∀(cs:List C) (us:List U),(chunks cs us).length=cs.length| [],_=>rfl|c::cs,us=>by simp only[chunks,AI,fH cs]
theorem bO:∀(cs:List C) (us:List U),us.length=VQ cs->(chunks cs us).flatten=us
 | [],us,h=>by cases us with|nil=>rfl|cons u us=>cases h
 |c::cs,us,h=>by
  simp only[VQ]at h;simp only[chunks,List.flatten_cons];rw[bO cs _ (by rw[BI];omega),Cb]
theorem fG:∀(cs j:List C) (us os:List U),us.length=VQ cs->chunks (cs++j) (us++os)=chunks cs us++chunks j os
 | [],j,us,os,h=>by cases us with|nil=>rfl|cons u us=>cases h
 |c::cs,j,us,os,h=>by
  simp only[VQ]at h;simp only[Bm,chunks];rw[List.take_append_of_le_length (by omega),List.drop_append_of_le_length (by omega),fG cs j _ os (by rw[BI];omega)]
theorem m8:∀{cs:List C} {us:List U} {x:Tu cs},ofT cs us=some x->RR cs x=(chunks cs us).map (List.map U.fg)
 | [],us,x,h=>rfl| [c],us,x,h=>by
  have j:ofC c us=some x:=h;show [enc c x]=_;rw[JC j];simp only[chunks,AK,Ba];rw[List.take_of_length_le (by rw[AXc j];exact Ab _)]
 |c::q::cs,us,x,h=>by
  simp only[ofT]at h;split at h
  .rename_i a b y B;cases h;show enc c a::RR (q::cs) b=_;rw[JC y,m8 B];rfl
  .cases h
theorem MP{S}:∀{ks:List PK} {i:Nat} {os:List U},Fc i ks S=some os->Lv.Fc i (ks.map PK.md) (S.fg R)=some ((chunks (MN ks) os).map (List.map U.fg))/\os.length=VQ (MN ks)
 | [],i,os,h=>by cases h;exact⟨rfl,rfl⟩
 |.b c::ks,i,os,h=>by
  simp only[Fc]at h;split at h
  .rename_i ls J B E;obtain⟨G,H⟩:=MP (ks:=ks) E;split at h
   .rename_i q;split at h
    .rename_i us y;cases h;have j:us.length=c.size:=by rw[fA y,q.2]
     have I:i∈(S.fg R).pin:=mem_iff.1 q.1;refine⟨?_,by simp only[AH,MN,VQ,j,H]⟩;simp only[AK,PK.md,Lv.Fc,PO,B,Ap,G,MN,chunks];rw[AW I,QD y,Ce j,Cw j];rfl
    .cases h
   .cases h
  .cases h
 |.m c::ks,i,os,h=>by
  simp only[Fc]at h;split at h
  .rename_i e J B E;obtain⟨G,H⟩:=MP (ks:=ks) E;split at h
   .rename_i q;split at h
    .rename_i us y;cases h;obtain⟨L,O⟩:=ALR (R:=R) y;have j:us.length=c.size:=by rw[O,q.2.2]
     have I:i∈(S.fg R).pin:=mem_iff.1 q.1;refine⟨?_,by simp only[AH,MN,VQ,j,H]⟩;simp only[AK,PK.md,Lv.Fc,Xw,B,Ap,G,MN,chunks,Ent.fg,Ac];rw[AW ⟨I,q.2.1⟩,L,Ce j,Cw j];rfl
    .cases h
   .cases h
  .cases h
 |.v c::ks,i,os,h=>MP (ks:=ks) h|.p c::ks,i,os,h=>MP (ks:=ks) h|.o c::ks,i,os,h=>MP (ks:=ks) h|.f x l::ks,i,os,h=>MP (ks:=ks) h
theorem ADM:∀(cs:List C) (x:Tu cs),(RR cs x).map List.length=cs.map C.size
 | [],x=>rfl| [c],x=>congrArg (λn=>[n]) (PM c x)|c::j::cs,x=>by
  obtain⟨a,b⟩:=x;show (enc c a).length::(RR (j::cs) b).map List.length=_;rw[ADM (j::cs) b,PM];rfl
theorem MO:∀(ks:List PK) (a:A ks) (os:List (List T)),os.map List.length=(MN ks).map C.size->Lv.HC (ks.map PK.md) (aVs ks a) os=true
 | [],a,[],h=>rfl| [],a,o::os,h=>by cases h
 |.b c::ks,a,[],h=>by cases h
 |.b c::ks,a,o::os,h=>by
  obtain⟨j,q⟩:=a;simp only[MN,AK,CE]at h;have y:(enc c j).length=c.size:=PM c j;show (o.length==(enc c j).length&&Lv.HC (ks.map PK.md) (aVs ks q) os)=true;rw[y,h.1,MO ks q os h.2];simp
 |.m c::ks,a,[],h=>by cases h
 |.m c::ks,a,o::os,h=>by
  simp only[MN,AK,CE]at h;exact MO ks a.2 os h.2
 |.v c::ks,a,os,h=>MO ks a.2 os h|.p c::ks,a,os,h=>MO ks a.2 os h|.o c::ks,a,os,h=>MO ks a.2 os h|.f x l::ks,a,os,h=>MO ks a.2 os h
end
def YF.er(f:YF):CQ:=.mk (f.ps.map PK.md) f.rs f.body.er
theorem AFb{f:YF}{S:St}{r}(h:fin f.ps f.rk f.rs S=some r) :
 Lv.fin (f.ps.map PK.md) f.rs (S.fg f.R) f.rk.sh ((RR _ r).take f.rk.cs.length).flatten ((RR _ r).drop f.rk.cs.length):=by
 unfold fin at h;obtain⟨S',us,B,h⟩:=AXx (R:=f.R) h;split at h
 .rename_i os G;split at h
  .rename_i y;obtain⟨E,H⟩:=MP (R:=f.R) G;have q:=m8 h;rw[fG _ _ _ _ y,Cx]at q;have j:((chunks f.rk.cs us).map (List.map U.fg)).length=f.rk.cs.length:=by rw[Ac,fH]
   rw[q,Ce j,Cw j];refine⟨S'.fg f.R,?_,E⟩;rw[B,<-Kq,bO _ _ y]
  .cases h
 .cases h
theorem YF.sound{f:YF}(q:AEH f.ps=true)(j:f.fs.map (λn=>(f.R[n]?).map GF.x)=(fX f.ps).map some){a:A f.ps}{r:Tu (f.rk.cs++MN f.ps)}(h:f.run a=some r) :
 KG f.er (aVs f.ps a) f.rk.sh ((RR _ r).take f.rk.cs.length).flatten ((RR _ r).drop f.rk.cs.length):=by
 unfold YF.run at h;rw[FA]at h;refine .intro ⟨_,Oe (R:=f.R) f.ps 0 f.fs a ⟨[],[],[],0⟩ q j,?_,?_⟩
 .grind[Eg,AFb]
 grind[MO,ADM,MN,List.map_drop,List.drop_left',List.length_map]
def YF.gf(f:YF)(hp:AEH f.ps=true)(hf:f.fs.map (λn=>(f.R[n]?).map GF.x)=(fX f.ps).map some)(d:A f.ps->Option (Tu (f.rk.cs++MN f.ps)))(hd:∀a,f.run a=d a):GF:=
 ⟨f.er,f.ps,f.rk,d,rfl,λa r h=>YF.sound hp hf ((hd a).trans h)⟩
end Y
end Lv
namespace Lv
open Y
open Go
def pD(c:C)(xs:List c.D)(i:Int)(ys:List c.D):Option (List c.D):=
 if 0<=i/\i.toNat<=xs.length/\ys≠[]/\xs.length+ys.length<=lim then some (xs.take i.toNat++ys++xs.drop i.toNat) else none
theorem ATd{c}(q:VD c=true) xs  i  ys  r(h:pD c xs i ys=some r) :
 KG (.NK (2*c.size) [.o,.v,.v]) [.o .one (enc (.l c) xs),.v .one (enc .i i),.v .one (enc (.l c) ys)] .one (enc (.l c) r) []:=by
 unfold pD at h;split at h
 .rename_i j;cases h;intro Rn hRn;refine hRn _ _ _ _ _ ?_;show U7 (2*c.size) _ _ _ _;unfold U7;refine⟨by omega,?_⟩;rw[AW (by omega)];refine⟨_,xs.map (enc c),_,ys.map (enc c),i,rfl,rfl,?_,rfl,?_,JZ q _,JZ q _,j.1,by simpa using j.2.1,by simpa using j.2.2.1,by simpa using j.2.2.2,rfl,?_,rfl⟩
  .simp[eOf]
  .simp[eOf]
  .show [T.sl c.size ((xs.take i.toNat++ys++xs.drop i.toNat).map (enc c))]=_;simp[DE,Cr]
 .cases h
def AZP(c:C)(hf:VD c=true):GF:=
 ⟨.NK (2*c.size) [.o,.v,.v],[.o (.l c),.v .i,.v (.l c)],.ret [.l c],λa=>pD c a.1 a.2.1 a.2.2.1,rfl,λa r h=>ATd hf _ _ _ r h⟩
def ADJ(c:C)(xs:List c.D)(i j:Int):Option (List c.D):=
 if 0<=i/\i<j/\j<=xs.length then some (xs.take i.toNat++xs.drop j.toNat) else none
theorem APy{c:C}(E:VD c=true)(y:decide (0<c.size)=true)(xs:List c.D)(i j:Int)(r:List c.D)(h:ADJ c xs i j=some r) :
 KG (.NK (2*c.size+1) [.o,.v,.v]) [.o .one (enc (.l c) xs),.v .one (enc .i i),.v .one (enc .i j)] .one (enc (.l c) r) []:=by
 unfold ADJ at h;split at h
 .rename_i q;cases h;intro Rn hRn;refine hRn _ _ _ _ _ ?_;show U7 (2*c.size+1) _ _ _ _;unfold U7;have B:(2*c.size+1) / 2=c.size:=by omega
  have y:=of_decide_eq_true y;refine⟨by omega,?_⟩;rw[AT (by omega),B];refine⟨xs.map (enc c),i,j,rfl,JZ E _,q.1,q.2.1,by simpa using q.2.2,rfl,?_,rfl⟩;show [T.sl c.size ((xs.take i.toNat++xs.drop j.toNat).map (enc c))]=_;simp[DE,Cr]
 .cases h
def AZE(c:C)(hf:VD c=true)(hs:decide (0<c.size)=true):GF:=
 ⟨.NK (2*c.size+1) [.o,.v,.v],[.o (.l c),.v .i,.v .i],.ret [.l c],λa=>ADJ c a.1 a.2.1 a.2.2.1,rfl,λa r h=>APy hf hs _ _ _ r h⟩
structure zg(ps:List PK)(rk:RK) where
 x:CQ
 d:A ps->Option (Tu (rk.cs++MN ps))
 ms:E4 x=ps.map PK.md
 ok:∀a r,d a=some r->KG x (aVs ps a) rk.sh ((RR _ r).take rk.cs.length).flatten ((RR _ r).drop rk.cs.length)
def zg.gf{ps:List PK}{rk:RK}(r:zg ps rk):GF:=⟨r.x,ps,rk,r.d,r.ms,r.ok⟩
def zg.of(g:GF):zg g.ps g.rk:=⟨g.x,g.d,g.ms,g.ok⟩
def zg.nil(ps:List PK)(rk:RK):zg ps rk:=⟨.NK 1 (ps.map PK.md),λ_=>none,rfl,λ_ _ h=>by cases h⟩
end Lv
namespace Lv
open Go (IntKind BinOp UnOp)
variable{α0 α1 α2 α3 α4 α5 γ:Type}
section
variable{a b c d e f g h:Type}
def Bo(k:a->h)(x:a×b):h:=k x.1
def BA(k:a->b->h)(x:a×b×c):h:=k x.1 x.2.1
def GS(k:a->b->c->h)(x:a×b×c×d):h:=k x.1 x.2.1 x.2.2.1
def WN(k:a->b->c->d->h)(x:a×b×c×d×e):h:=k x.1 x.2.1 x.2.2.1 x.2.2.2.1
def AWM(k:a->b->c->d->e->h)(x:a×b×c×d×e×f):h:=k x.1 x.2.1 x.2.2.1 x.2.2.2.1 x.2.2.2.2.1
def AH5(k:a->b->c->d->e->f->h)(x:a×b×c×d×e×f×g):h:=k x.1 x.2.1 x.2.2.1 x.2.2.2.1 x.2.2.2.2.1 x.2.2.2.2.2.1
end
namespace Y
def YF.ET(f:YF)(d:A f.ps->Option (Tu (f.rk.cs++MN f.ps)))(hd:∀a,f.run a=d a:=by intro a;kernel_rfl)(hp:AEH f.ps=true:=by rfl)(hf:f.fs.map (λn=>(f.R[n]?).map GF.x)=(fX f.ps).map some:=by rfl):GF:=f.gf hp hf d hd
end Y
def P6{γ:Type}(x y:Bp)(X:Option γ):Option γ:=eqv x.Data y.Data (eqv x.Safe y.Safe X)
theorem M5 x(X:Option γ):P6 x x X=X:=by unfold P6;simp only[Co]
def SL{γ:Type}(x y:CA)(X:Option γ):Option γ:=eqv x.Code y.Code (eqv x.Ids y.Ids X)
theorem zS x(X:Option γ):SL x x X=X:=by unfold SL;simp only[Co]
def zW{γ:Type}(x y:Dj)(X:Option γ):Option γ:=eqv x.Tm y.Tm (eqv x.at_ y.at_ (eqv x.zx y.zx X))
theorem zX x(X:Option γ):zW x x X=X:=by unfold zW;simp only[Co]
def Pe{γ:Type}(x y:BT)(X:Option γ):Option γ:=eqv x.b_ y.b_ (eqv x.i_ y.i_ (eqv x.h_ y.h_ X))
theorem Y8 x(X:Option γ):Pe x x X=X:=by unfold Pe;simp only[Co]
def zQ{γ:Type}(x y:A2)(X:Option γ):Option γ:=eqv x.Level y.Level (eqv x.A5 y.A5 (eqv x.Id y.Id (eqv x.BL y.BL X)))
theorem zR x(X:Option γ):zQ x x X=X:=by unfold zQ;simp only[Co]
def AYm{γ:Type}(x y:Bq)(X:Option γ):Option γ:=eqv x.Kind y.Kind (eqv x.Id y.Id (eqv x.AZ y.AZ (eqv x.B0 y.B0 (eqv x.BL y.BL (eqv x.DS y.DS X)))))
theorem SM x(X:Option γ):AYm x x X=X:=by unfold AYm;simp only[Co]
def zU{γ:Type}(x y:Bj)(X:Option γ):Option γ:=eqv x.Log.Data y.Log.Data (eqv x.Log.Safe y.Log.Safe (eqv x.Ec.Data y.Ec.Data (eqv x.Ec.Safe y.Ec.Safe (eqv x.Odd.Data y.Odd.Data (eqv x.Odd.Safe y.Odd.Safe X)))))
theorem Nz x(X:Option γ):zU x x X=X:=by unfold zU;simp only[Co]
def Cg{γ:Type}(x y:AY)(X:Option γ):Option γ:=eqv x.AX y.AX (eqv x.Cd y.Cd (eqv x.Room y.Room (eqv x.BL y.BL (eqv x.CK y.CK (eqv x.B7 y.B7 (eqv x.Rest y.Rest (eqv x.Cl y.Cl (eqv x.C7 y.C7 X))))))))
theorem LZ x(X:Option γ):Cg x x X=X:=by unfold Cg;simp only[Co]
def LY{γ:Type}(x y:AU)(X:Option γ):Option γ:=eqv x.Id y.Id (eqv x.AZ y.AZ (eqv x.B0 y.B0 (eqv x.BL y.BL (eqv x.DS y.DS (eqv x.Since y.Since (eqv x.A5 y.A5 (eqv x.State y.State (eqv x.DO y.DO (eqv x.Du y.Du X)))))))))
theorem Gq x(X:Option γ):LY x x X=X:=by unfold LY;simp only[Co]
def Kc{γ:Type}(x y:AE)(X:Option γ):Option γ:=eqv x.AQ.AX y.AQ.AX (eqv x.AQ.Cd y.AQ.Cd (eqv x.AQ.Room y.AQ.Room (eqv x.AQ.BL y.AQ.BL (eqv x.AQ.CK y.AQ.CK (eqv x.AQ.B7 y.AQ.B7 (eqv x.AQ.Rest y.AQ.Rest (eqv x.AQ.Cl y.AQ.Cl (eqv x.AQ.C7 y.AQ.C7 (eqv x.Now y.Now (eqv x.A5 y.A5 (eqv x.AG y.AG (eqv x.AJ y.AJ (eqv x.BF y.BF (eqv x.BD y.BD X))))))))))))))
theorem Ij x(X:Option γ):Kc x x X=X:=by unfold Kc;simp only[Co]
def oU{γ:Type}(x y:Az)(X:Option γ):Option γ:=eqv x.Ax.AQ.AX y.Ax.AQ.AX (eqv x.Ax.AQ.Cd y.Ax.AQ.Cd (eqv x.Ax.AQ.Room y.Ax.AQ.Room (eqv x.Ax.AQ.BL y.Ax.AQ.BL (eqv x.Ax.AQ.CK y.Ax.AQ.CK (eqv x.Ax.AQ.B7 y.Ax.AQ.B7 (eqv x.Ax.AQ.Rest y.Ax.AQ.Rest (eqv x.Ax.AQ.Cl y.Ax.AQ.Cl (eqv x.Ax.AQ.C7 y.Ax.AQ.C7 (eqv x.Ax.Now y.Ax.Now (eqv x.Ax.A5 y.Ax.A5 (eqv x.Ax.AG y.Ax.AG (eqv x.Ax.AJ y.Ax.AJ (eqv x.Ax.BF y.Ax.BF (eqv x.Ax.BD y.Ax.BD (eqv x.Aq.Log.Data y.Aq.Log.Data (eqv x.Aq.Log.Safe y.Aq.Log.Safe (eqv x.Aq.Ec.Data y.Aq.Ec.Data (eqv x.Aq.Ec.Safe y.Aq.Ec.Safe (eqv x.Aq.Odd.Data y.Aq.Odd.Data (eqv x.Aq.Odd.Safe y.Aq.Odd.Safe (eqv x.Seq y.Seq (eqv x.Laid y.Laid X))))))))))))))))))))))
theorem KV x(X:Option γ):oU x x X=X:=by unfold oU;simp only[Co]
def zV{γ:Type}(x y:BV)(X:Option γ):Option γ:=eqv x.Ad.Ax.AQ.AX y.Ad.Ax.AQ.AX (eqv x.Ad.Ax.AQ.Cd y.Ad.Ax.AQ.Cd (eqv x.Ad.Ax.AQ.Room y.Ad.Ax.AQ.Room (eqv x.Ad.Ax.AQ.BL y.Ad.Ax.AQ.BL (eqv x.Ad.Ax.AQ.CK y.Ad.Ax.AQ.CK (eqv x.Ad.Ax.AQ.B7 y.Ad.Ax.AQ.B7 (eqv x.Ad.Ax.AQ.Rest y.Ad.Ax.AQ.Rest (eqv x.Ad.Ax.AQ.Cl y.Ad.Ax.AQ.Cl (eqv x.Ad.Ax.AQ.C7 y.Ad.Ax.AQ.C7 (eqv x.Ad.Ax.Now y.Ad.Ax.Now (eqv x.Ad.Ax.A5 y.Ad.Ax.A5 (eqv x.Ad.Ax.AG y.Ad.Ax.AG (eqv x.Ad.Ax.AJ y.Ad.Ax.AJ (eqv x.Ad.Ax.BF y.Ad.Ax.BF (eqv x.Ad.Ax.BD y.Ad.Ax.BD (eqv x.Ad.Aq.Log.Data y.Ad.Aq.Log.Data (eqv x.Ad.Aq.Log.Safe y.Ad.Aq.Log.Safe (eqv x.Ad.Aq.Ec.Data y.Ad.Aq.Ec.Data (eqv x.Ad.Aq.Ec.Safe y.Ad.Aq.Ec.Safe (eqv x.Ad.Aq.Odd.Data y.Ad.Aq.Odd.Data (eqv x.Ad.Aq.Odd.Safe y.Ad.Aq.Odd.Safe (eqv x.Ad.Seq y.Ad.Seq (eqv x.Ad.Laid y.Ad.Laid (eqv x.Di y.Di (eqv x.Cc y.Cc (eqv x.JL y.JL X)))))))))))))))))))))))))
theorem Y7 x(X:Option γ):zV x x X=X:=by unfold zV;simp only[Co]
def Er:List U:=[.nil,.int .i64 0,.int .i64 0,.int .i64 0,.int .i64 0,.int .i64 0,.int .i64 0,.int .i64 0,.int .i64 0,.int .i64 0,.int .i64 0,.nil,.nil,.nil,.nil]
def AYF:List U:=[.int .i64 0,.int .i64 0,.int .i64 0,.int .i64 0,.int .i64 0,.int .i64 0,.int .i64 0,.int .i64 0,.int .i64 0,.int .i64 0]
def AFG:List U:=[.int .i64 0,.int .i64 0,.int .i64 0,.int .i64 0,.int .i64 0,.int .i64 0,.int .i64 0,.int .i64 0,.nil]
def AYE:List U:=[.int .i64 0,.int .i64 0,.int .i64 0,.int .i64 0,.int .i64 0,.nil,.nil]
def ev2{α0 α1 γ:Type}(a0:α0)(a1:α1)(X:Option γ):Option γ:=eqv a0 a0 (eqv a1 a1 X)
theorem LF(a0:α0)(j:α1)(X:Option γ):ev2 a0 j X=X:=by unfold ev2;simp only[Co]
def ev3{α0 α1 α2 γ:Type}(a0:α0)(a1:α1)(a2:α2)(X:Option γ):Option γ:=eqv a0 a0 (eqv a1 a1 (eqv a2 a2 X))
theorem LG(a0:α0)(j:α1)(q:α2)(X:Option γ):ev3 a0 j q X=X:=by unfold ev3;simp only[Co]
def ev4{α0 α1 α2 α3 γ:Type}(a0:α0)(a1:α1)(a2:α2)(a3:α3)(X:Option γ):Option γ:=eqv a0 a0 (eqv a1 a1 (eqv a2 a2 (eqv a3 a3 X)))
theorem LH(a0:α0)(j:α1)(q:α2)(a3:α3)(X:Option γ):ev4 a0 j q a3 X=X:=by unfold ev4;simp only[Co]
def ev5{α0 α1 α2 α3 α4 γ:Type}(a0:α0)(a1:α1)(a2:α2)(a3:α3)(a4:α4)(X:Option γ):Option γ:=eqv a0 a0 (eqv a1 a1 (eqv a2 a2 (eqv a3 a3 (eqv a4 a4 X))))
theorem LI(a0:α0)(j:α1)(q:α2)(a3:α3)(a4:α4)(X:Option γ):ev5 a0 j q a3 a4 X=X:=by unfold ev5;simp only[Co]
def ev6{α0 α1 α2 α3 α4 α5 γ:Type}(a0:α0)(a1:α1)(a2:α2)(a3:α3)(a4:α4)(a5:α5)(X:Option γ):Option γ:=eqv a0 a0 (eqv a1 a1 (eqv a2 a2 (eqv a3 a3 (eqv a4 a4 (eqv a5 a5 X)))))
theorem Kj(a0:α0)(j:α1)(q:α2)(a3:α3)(a4:α4)(y:α5)(X:Option γ):ev6 a0 j q a3 a4 y X=X:=by unfold ev6;simp only[Co]
def ev7{α0 α1 α2 α3 α4 α5 α6 γ:Type}(a0:α0)(a1:α1)(a2:α2)(a3:α3)(a4:α4)(a5:α5)(a6:α6)(X:Option γ):Option γ:=eqv a0 a0 (eqv a1 a1 (eqv a2 a2 (eqv a3 a3 (eqv a4 a4 (eqv a5 a5 (eqv a6 a6 X))))))
theorem LJ{α6}(a0:α0)(j:α1)(q:α2)(a3:α3)(a4:α4)(y:α5)(B:α6)(X:Option γ):ev7 a0 j q a3 a4 y B X=X:=by unfold ev7;simp only[Co]
def ev8{α0 α1 α2 α3 α4 α5 α6 α7 γ:Type}(a0:α0)(a1:α1)(a2:α2)(a3:α3)(a4:α4)(a5:α5)(a6:α6)(a7:α7)(X:Option γ):Option γ:=eqv a0 a0 (eqv a1 a1 (eqv a2 a2 (eqv a3 a3 (eqv a4 a4 (eqv a5 a5 (eqv a6 a6 (eqv a7 a7 X)))))))
theorem LK{α6 α7}(a0:α0)(j:α1)(q:α2)(a3:α3)(a4:α4)(y:α5)(B:α6)(E:α7)(X:Option γ):ev8 a0 j q a3 a4 y B E X=X:=by unfold ev8;simp only[Co]
def orE{ρ:Type}(a b:Option ρ):Option ρ:=match a with|some r=>some r|none=>b
def GF.orE(g:GF)(d d2:A g.ps->Option (Tu (g.rk.cs++MN g.ps)))(hd:∀a,d a=Lv.orE (g.d a) (d2 a))
 (hk:∀a r,d2 a=some r->KG g.x (aVs g.ps a) g.rk.sh ((RR _ r).take g.rk.cs.length).flatten ((RR _ r).drop g.rk.cs.length)):GF:=
 ⟨g.x,g.ps,g.rk,d,g.ms,λa r h=>by
  rw[hd]at h;unfold Lv.orE at h;split at h
  .rename_i r' h';cases h;exact g.ok a _ h'
  .exact hk a r h⟩
namespace Y
section
variable{R:List GF}
def qn(l:List (YOp R)):List (Option (Nat×Bool)×YOp R):=l.map λo=>(none,o)
def qf(g:Nat)(l:List (YOp R)):List (Option (Nat×Bool)×YOp R):=l.map λo=>(some (g,false),o)
def qt(g:Nat)(l:List (YOp R)):List (Option (Nat×Bool)×YOp R):=l.map λo=>(some (g,true),o)
def qr(l:List (List (Option (Nat×Bool)×YOp R)))(FD:List Nat):HG R:=.region l.flatten FD
def q1(l:List (YOp R))(FD:List Nat):HG R:=.region (qn l) FD
def qdl(r:B4 R):Nat->List (Option (Nat×Bool)×YOp R)->B4 R|_,[]=>r|i,o::l=>.op i o.1 [] o.2 (qdl r (i+1) l)
def qd(i:Nat)(l:List (List (Option (Nat×Bool)×YOp R)))(r:B4 R):B4 R:=qdl r i l.flatten
def qm(d s:Nat):YOp R:=.mv d (.tmp s)
def qa(d s:Nat):YOp R:=.as d (.tmp s)
def qo(d o s:Nat):YOp R:=.fa d o (.tmp s)
def ql(d s:Nat):YOp R:=.ld d none (.tmp s)
def qL(d n s:Nat):YOp R:=.ld d (some n) (.tmp s)
def qb(d:Nat)(o:BinOp)(x y:Nat):YOp R:=.bin d .num o (.tmp x) (.tmp y)
def qi(d:Nat)(o:BinOp)(x:Nat)(n:Int):YOp R:=.bin d .num o (.tmp x) (.k (.int .i64 n))
def qx(d s:Nat):YOp R:=.un d .not (.tmp s)
def qp(d c x:Nat):YOp R:=.pick d (.tmp c) (.k (.bool true)) (.tmp x)
def qq(d c x:Nat):YOp R:=.pick d (.tmp c) (.tmp x) (.k (.bool false))
def qc(d:Nat)(g:GF)(hf:([]:List Nat).map (λn=>(R[n]?).map GF.x)=(fX g.ps).map some)(l:List Nat):YOp R:=.call d g [] hf (l.map .tmp)
def qz(d s:Nat):YOp R:=.len d (.tmp s)
def qe(d:Nat)(c:C)(x i:Nat):YOp R:=.ia d c (.tmp x) (.tmp i)
def qk(d:Nat)(n:Int):YOp R:=.mv d (.k (.int .i64 n))
def qK(d:Nat)(n:Int):YOp R:=.as d (.k (.int .i64 n))
def qB(d:Nat)(b:Bool):YOp R:=.as d (.k (.bool b))
def qw(n x v:Nat):YOp R:=.st n (.tmp x) (.tmp v)
def qu(d s:Nat):YOp R:=.box d (.tmp s)
def qj(n:Int):YO:=.k (.int .i64 n)
instance (n:Nat):OfNat YO n:=⟨.tmp n⟩
def kpF:Nat->Nat->Nat->List Nat
 |0,_,_=>[]|f+1,i,n=>match Nat.beq n 0 with|true=>[]|false=>match Nat.testBit n 0 with|true=>i::kpF f (i+1) (n / 2)|false=>kpF f (i+1) (n / 2)
def wU:Nat->List (Nat->Nat->YOp R)->List (YOp R)|_,[]=>[]|0,f::l=>f 0 0::wU 1 l|k+1,f::l=>f (k+1) k::wU (k+2) l
def wn(d:Nat)(l:List (Nat->Nat->YOp R)):List (Option (Nat×Bool)×YOp R):=qn (wU d l)
def wf(g d:Nat)(l:List (Nat->Nat->YOp R)):List (Option (Nat×Bool)×YOp R):=qf g (wU d l)
def wt(g d:Nat)(l:List (Nat->Nat->YOp R)):List (Option (Nat×Bool)×YOp R):=qt g (wU d l)
def w1(d:Nat)(l:List (Nat->Nat->YOp R))(FD:List Nat):HG R:=q1 (wU d l) FD
def sw(d:Nat)(l:List (Nat->Nat->YOp R))(FD:List Nat)(b:HG R):HG R:=.seq (q1 (wU d l) FD) b
def sq(l:List (YOp R))(FD:List Nat)(b:HG R):HG R:=.seq (q1 l FD) b
def sr(l:List (List (Option (Nat×Bool)×YOp R)))(FD:List Nat)(b:HG R):HG R:=.seq (qr l FD) b
def wm(s d _p:Nat):YOp R:=.mv d (.tmp s)
def wM(d p:Nat):YOp R:=.mv d (.tmp p)
def wo(o s d _p:Nat):YOp R:=.fa d o (.tmp s)
def wO(o d p:Nat):YOp R:=.fa d o (.tmp p)
def wl(s d _p:Nat):YOp R:=.ld d none (.tmp s)
def wL(d p:Nat):YOp R:=.ld d none (.tmp p)
def wk(n s d _p:Nat):YOp R:=.ld d (some n) (.tmp s)
def wK(n d p:Nat):YOp R:=.ld d (some n) (.tmp p)
def wz(s d _p:Nat):YOp R:=.len d (.tmp s)
def wZ(d p:Nat):YOp R:=.len d (.tmp p)
def wx(s d _p:Nat):YOp R:=.un d .not (.tmp s)
def wX(d p:Nat):YOp R:=.un d .not (.tmp p)
def wb(o:BinOp)(x y d _p:Nat):YOp R:=.bin d .num o (.tmp x) (.tmp y)
def wB(o:BinOp)(x d p:Nat):YOp R:=.bin d .num o (.tmp x) (.tmp p)
def wi(o:BinOp)(x:Nat)(n:Int)(d _p:Nat):YOp R:=.bin d .num o (.tmp x) (.k (.int .i64 n))
def wI(o:BinOp)(n:Int)(d p:Nat):YOp R:=.bin d .num o (.tmp p) (.k (.int .i64 n))
def wr(c x d _p:Nat):YOp R:=.pick d (.tmp c) (.k (.bool true)) (.tmp x)
def wR(c d p:Nat):YOp R:=.pick d (.tmp c) (.k (.bool true)) (.tmp p)
def wq(c x d _p:Nat):YOp R:=.pick d (.tmp c) (.tmp x) (.k (.bool false))
def wQ(c d p:Nat):YOp R:=.pick d (.tmp c) (.tmp p) (.k (.bool false))
def we(c:C)(x i d _p:Nat):YOp R:=.ia d c (.tmp x) (.tmp i)
def wE(c:C)(x d p:Nat):YOp R:=.ia d c (.tmp x) (.tmp p)
def wc(g:GF)(hf:([]:List Nat).map (λn=>(R[n]?).map GF.x)=(fX g.ps).map some)(l:List YO)(d _p:Nat):YOp R:=.call d g [] hf l
def wY(g:GF)(hf:([]:List Nat).map (λn=>(R[n]?).map GF.x)=(fX g.ps).map some)(d p:Nat):YOp R:=.call d g [] hf [.tmp p]
def wj(n:Int)(d _p:Nat):YOp R:=.mv d (.k (.int .i64 n))
def wh(f:Nat->YOp R)(d _p:Nat):YOp R:=f d
def Kp(n:Nat):List Nat:=kpF 300 0 n
def cv(n:Nat)(c:C):Bool×Nat×Sh×List AL:=(false,n,.one,[.val c none])
def ca(n:Nat)(c:C):Bool×Nat×Sh×List AL:=(false,n,.agg,[.val c none])
def cx(n:Nat)(c:C):Bool×Nat×Sh×List AL:=(true,n,.one,[.val c none])
def cn(c:Nat)(ke:List Nat)(t:HG R):HG R:=.cond c [] ke t .skip
def ce(c:Nat)(kt ke:List Nat)(id:Nat):HG R:=.cond c kt ke .skip (.exit id)
def bl(id:Nat)(c:Cut)(b:HG R):HG R:=.block id (.loop c b)
end
end Y
end Lv
namespace Lv
open Go
section
variable{A:Nat->Nat->List Md->Prop}{P:Program}
def fnd(n:Nat)(ms:List Md):List (Nat×CQ)->Option CQ
 | []=>none|p::r=>match Nat.beq p.1 n&&decide (E4 p.2=ms) with|true=>some p.2|false=>fnd n ms r
theorem vJ {n ms x}:∀{r:List (Nat×CQ)},fnd n ms r=some x->(n,x)∈r
 | [],h=>by cases h
 |(k,y)::r,h=>by
  unfold fnd at h;split at h
  .rename_i j;cases h;rw[AF]at j;have q:k=n:=E0 j.1;subst q;exact BK
  .exact Af _ (vJ h)
theorem Mt.at{r:List (Nat×CQ)} {n x} (h:∀p∈r,Mt A P p.1 p.2) (e:fnd n (E4 x) r=some x):Mt A P n x:=h _ (vJ e)
def caO(P:Program)(p:Nat×CQ):List (Nat×CQ):=match P.funcs[p.1]? with|some fn=>AIW fn p.2|none=>[]
def okO(P:Program)(p:Nat×CQ):Bool:=match P.funcs[p.1]? with|some fn=>AXd P fn p.2|none=>false
def okM(P:Program):List (Nat×CQ)->Bool| []=>true|p::l=>okO P p&&okM P l
def caM(P:Program):List (Nat×CQ)->List (List (Nat×CQ))| []=>[]|p::l=>caO P p::caM P l
def ex1(r:List (Nat×CQ))(q:Nat×CQ):Nat×CQ:=match fnd q.1 (E4 q.2) r with|some x=>(q.1,x)|none=>(q.1+1,q.2)
def exM(P:Program):List (Nat×CQ)->List (Nat×CQ)->List (List (Nat×CQ))| [],_=>[]|p::l,r=>(caO P p).map (ex1 r)::exM P l (p::r)
theorem ALJ{α:Type}{f}:∀{l:List α},l=l.map f->∀x∈l,x=f x
 |a::l,h,x,j=>by
  injection h with q y;rcases Ae.1 j with rfl|j
  .exact q
  .exact ALJ y x j
theorem Mt.s:∀{l r:List (Nat×CQ)},(∀p∈r,Mt A P p.1 p.2)->okM P l=true->caM P l=exM P l r->∀p∈l.reverseAux r,Mt A P p.1 p.2
 | [],_,h,_,_=>h|p::l,r,h,G,J=>by
  unfold okM at G;unfold caM exM at J;rw[AF]at G;obtain⟨y,L⟩:=G;injection J with j B;refine Mt.s (l:=l) (r:=p::r) (λq H=>?_) L B;rcases Ae.1 H with rfl|H
  .unfold okO at y;unfold caO at j;cases E:P.funcs[q.1]? with
   |none=>simp[E]at y|some fn=>
    simp only[E]at y j;refine Mt.by E y rfl λt O=>?_
    have e:=ALJ j t O;unfold ex1 at e;cases I:fnd t.1 (E4 t.2) r with
    |none=>
     rw[I]at e;have:=congrArg Prod.fst e;simp at this
    |some x=>
     rw[I]at e;rw[e];exact h _ (vJ I)
  .exact h q H
def lX(l:List (Nat×GF)):List (Nat×CQ):=l.map λp=>(p.1,p.2.x)
end
end Lv
