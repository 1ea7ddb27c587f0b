/- The typed machine is right about the light one. -/
import Derived.Test.YtknihindefnhcaaGreatLvE
import Derived.KernelRfl
set_option linter.all false
noncomputable section
open Bool renaming and_eq_true->AD,false_and->Bv,false_eq_true->BP,not_eq_true'->BE
open List renaming all_map->Ko,any_map->IV,cons_append->A8,drop_left'->C4,ext_getElem?->GN,getD_eq_getElem?_getD->BB,getElem?_eq_some_iff->AO,getElem?_map->A0,getElem?_set->Eb,length_append->AH,length_cons->AK,length_drop->BD,length_map->Af,length_nil->AT,map_append->Dc,map_cons->AJ,map_drop->Cp,map_flatten->Lj,map_map->DU,map_nil->Bb,map_replicate->GB,map_set->IW,map_take->C8,mem_cons->Ae,mem_cons_of_mem->Am,mem_cons_self->BQ,replicate_succ->J2,take_append_drop->CL,take_left'->Ci
open List.cons renaming injEq->B3
open Nat renaming beq_refl->Kq,eq_of_beq_eq_true->FK,le_of_ble_eq_true->JQ,le_refl->Aj,lt_of_lt_of_le->BZ,lt_succ_of_lt->LC,ne_of_beq_eq_false->Iy,not_lt->Qa,sub_self->E7
open Option renaming getD_some->DN,map_some->As
open Option.some renaming injEq->AE
namespace Lv
open Go (IntKind BinOp UnOp)
variable{d:Type}{o:Option d}{e:Type}{x:Option e}{a:Type}{r:e}
structure Bo where
 (Kind Id Ab Bs BL DH:Int:=0)
abbrev AJ6(x:Bo):List T:=[.int .i64 x.Kind,.int .i64 x.Id,.int .i64 x.Ab,.int .i64 x.Bs,.int .i64 x.BL,.int .i64 x.DH]
structure Ad where
 AZ:List Int:=[]
 (Cj Room BL Ca CD Rest Cr Da:Int:=0)
abbrev AWY(x:Ad):List T:=[.sl 1 (x.AZ.map eN),.int .i64 x.Cj,.int .i64 x.Room,.int .i64 x.BL,.int .i64 x.Ca,.int .i64 x.CD,.int .i64 x.Rest,.int .i64 x.Cr,.int .i64 x.Da]
structure AR where
 (Id Ab Bs BL DH Since A3 State DK De:Int)
abbrev gT(x:AR):List T:=[.int .i64 x.Id,.int .i64 x.Ab,.int .i64 x.Bs,.int .i64 x.BL,.int .i64 x.DH,.int .i64 x.Since,.int .i64 x.A3,.int .i64 x.State,.int .i64 x.DK,.int .i64 x.De]
structure BO where
 (Total Et FU Ge Gm:Int)
abbrev APR(x:BO):List T:=[.int .i64 x.Total,.int .i64 x.Et,.int .i64 x.FU,.int .i64 x.Ge,.int .i64 x.Gm]
structure Ar where
 (Level A3 Id BL:Int)
abbrev AJ4(x:Ar):List T:=[.int .i64 x.Level,.int .i64 x.A3,.int .i64 x.Id,.int .i64 x.BL]
structure Bf where
 (At Id:Int)
abbrev APS(x:Bf):List T:=[.int .i64 x.At,.int .i64 x.Id]
structure A2 where
 Av:List (List Bf)
abbrev AWa(x:A2):List T:=[.sl 1 (x.Av.map (λl=>[T.sl 2 (l.map APS)]))]
structure Ak where
 AZ:BO
 Row:List Ar
 B9:A2
abbrev gQ(x:Ak):List T:=[.int .i64 x.AZ.Total,.int .i64 x.AZ.Et,.int .i64 x.AZ.FU,.int .i64 x.AZ.Ge,.int .i64 x.AZ.Gm,.sl 4 (x.Row.map AJ4),.sl 1 (x.B9.Av.map (λl=>[T.sl 2 (l.map APS)]))]
structure AF where
 AQ:Ad:={}
 (Now A3:Int:=0)
 AG:List AR:=[]
 AI:List Ak:=[]
 (BM BI:List Int:=[])
abbrev AWX(x:AF):List T:=[.sl 1 (x.AQ.AZ.map eN),.int .i64 x.AQ.Cj,.int .i64 x.AQ.Room,.int .i64 x.AQ.BL,.int .i64 x.AQ.Ca,.int .i64 x.AQ.CD,.int .i64 x.AQ.Rest,.int .i64 x.AQ.Cr,.int .i64 x.AQ.Da,.int .i64 x.Now,.int .i64 x.A3,.sl 10 (x.AG.map gT),.sl 7 (x.AI.map gQ),.sl 1 (x.BM.map eN),.sl 1 (x.BI.map eN)]
structure Bp where
 Data:List UInt8:=[]
 Safe:Int:=0
abbrev AYx(x:Bp):List T:=[.str x.Data,.int .i64 x.Safe]
structure BY where
 (Log DR Odd:Bp:={})
abbrev AWZ(x:BY):List T:=[.str x.Log.Data,.int .i64 x.Log.Safe,.str x.DR.Data,.int .i64 x.DR.Safe,.str x.Odd.Data,.int .i64 x.Odd.Safe]
structure Ai where
 BG:AF
 Ac:BY
 Seq:Int
 Laid:List Bo
abbrev APQ(x:Ai):List T:=[.sl 1 (x.BG.AQ.AZ.map eN),.int .i64 x.BG.AQ.Cj,.int .i64 x.BG.AQ.Room,.int .i64 x.BG.AQ.BL,.int .i64 x.BG.AQ.Ca,.int .i64 x.BG.AQ.CD,.int .i64 x.BG.AQ.Rest,.int .i64 x.BG.AQ.Cr,.int .i64 x.BG.AQ.Da,.int .i64 x.BG.Now,.int .i64 x.BG.A3,.sl 10 (x.BG.AG.map gT),.sl 7 (x.BG.AI.map gQ),.sl 1 (x.BG.BM.map eN),.sl 1 (x.BG.BI.map eN),.str x.Ac.Log.Data,.int .i64 x.Ac.Log.Safe,.str x.Ac.DR.Data,.int .i64 x.Ac.DR.Safe,.str x.Ac.Odd.Data,.int .i64 x.Ac.Odd.Safe,.int .i64 x.Seq,.sl 6 (x.Laid.map AJ6)]
structure Ck where
 Code:Int
 Ids:List Int
abbrev AJ5(x:Ck):List T:=[.int .i64 x.Code,.sl 1 (x.Ids.map eN)]
structure CJ where
 Ay:Ai
 K7:List Bo
 Ez:List Ck
 MC:Int
abbrev AWb(x:CJ):List T:=[.sl 1 (x.Ay.BG.AQ.AZ.map eN),.int .i64 x.Ay.BG.AQ.Cj,.int .i64 x.Ay.BG.AQ.Room,.int .i64 x.Ay.BG.AQ.BL,.int .i64 x.Ay.BG.AQ.Ca,.int .i64 x.Ay.BG.AQ.CD,.int .i64 x.Ay.BG.AQ.Rest,.int .i64 x.Ay.BG.AQ.Cr,.int .i64 x.Ay.BG.AQ.Da,.int .i64 x.Ay.BG.Now,.int .i64 x.Ay.BG.A3,.sl 10 (x.Ay.BG.AG.map gT),.sl 7 (x.Ay.BG.AI.map gQ),.sl 1 (x.Ay.BG.BM.map eN),.sl 1 (x.Ay.BG.BI.map eN),.str x.Ay.Ac.Log.Data,.int .i64 x.Ay.Ac.Log.Safe,.str x.Ay.Ac.DR.Data,.int .i64 x.Ay.Ac.DR.Safe,.str x.Ay.Ac.Odd.Data,.int .i64 x.Ay.Ac.Odd.Safe,.int .i64 x.Ay.Seq,.sl 6 (x.Ay.Laid.map AJ6),.sl 6 (x.K7.map AJ6),.sl 2 (x.Ez.map AJ5),.int .i64 x.MC]
structure FJ where
 Kind:Int
 Req:Bo
 N_:Int
 Q4:List Int
abbrev AaJ(x:FJ):List T:=[.int .i64 x.Kind,.int .i64 x.Req.Kind,.int .i64 x.Req.Id,.int .i64 x.Req.Ab,.int .i64 x.Req.Bs,.int .i64 x.Req.BL,.int .i64 x.Req.DH,.int .i64 x.N_,.sl 1 (x.Q4.map eN)]
structure By where
 Seq:Int:=0
 Body:List UInt8:=[]
 Next:Int:=0
abbrev AWW(x:By):List T:=[.int .i64 x.Seq,.str x.Body,.int .i64 x.Next]
structure Dy where
 VB:List Int
 at_:Int
 AAe:Bool
abbrev AWc(x:Dy):List T:=[.sl 1 (x.VB.map eN),.int .i64 x.at_,.bool x.AAe]
structure AP where
 b_:List UInt8
 (i_ h_:Int)
abbrev AWd(x:AP):List T:=[.sl 1 (x.b_.map eBr),.int .i64 x.i_,.int .i64 x.h_]
inductive C where
 |i|u|b|s|m|z|ki(k:IntKind)|l(c:C)|st(n:Nat)|un(n:Nat)
 deriving DecidableEq
def tD:Nat->Type|0=>Bo|1=>Ad|2=>AR|3=>BO|4=>Ar|5=>Bf|6=>A2|7=>Ak|8=>AF|9=>Bp|10=>BY|11=>Ai|12=>Ck|13=>CJ|14=>FJ|15=>By|16=>Dy|17=>AP|_=>Unit
def C.D:C->Type|.i=>Int|.u=>UInt8|.b=>Bool|.s=>List UInt8|.m=>List (Int×Int)|.ki _=>Int|.z=>Unit|.l c=>List c.D|.st n=>tD n|.un _=>Unit
def AYL:Nat->Nat|0=>6|1=>9|2=>10|3=>5|4=>4|5=>2|6=>1|7=>7|8=>15|9=>2|10=>6|11=>23|12=>2|13=>26|14=>9|15=>3|16=>3|17=>3|_=>0
def C.size:C->Nat|.st n=>AYL n|.un n=>n|_=>1
inductive U where
 |top|un|int(k:IntKind)(n:Int)|u8(x:UInt8)|bool(b:Bool)|str(s:List UInt8)|nil|np|sl(c:C)(xs:List c.D)|mp(ks:List (Int×Int))
def AaK:(n:Nat)->tD n->List T|0,x=>AJ6 x|1,x=>AWY x|2,x=>gT x|3,x=>APR x|4,x=>AJ4 x|5,x=>APS x|6,x=>AWa x|7,x=>gQ x|8,x=>AWX x|9,x=>AYx x|10,x=>AWZ x|11,x=>APQ x|12,x=>AJ5 x|13,x=>AWb x|14,x=>AaJ x|15,x=>AWW x|16,x=>AWc x|17,x=>AWd x|_+18,_=>[]
def enc:(c:C)->c.D->List T|.i,x=>[.int .i64 x]|.u,x=>[.int .u8 x.toNat]|.b,x=>[.bool x]|.s,x=>[.str x]|.m,x=>[.mp x]|.ki k,x=>[.int k x]|.z,_=>[.nil]|.l c,xs=>[.sl c.size (xs.map (enc c))]|.st n,x=>AaK n x|.un n,_=>List.replicate n .un
abbrev AXv(x:Bo):List U:=[.int .i64 x.Kind,.int .i64 x.Id,.int .i64 x.Ab,.int .i64 x.Bs,.int .i64 x.BL,.int .i64 x.DH]
abbrev AH4(x:Ad):List U:=[.sl .i x.AZ,.int .i64 x.Cj,.int .i64 x.Room,.int .i64 x.BL,.int .i64 x.Ca,.int .i64 x.CD,.int .i64 x.Rest,.int .i64 x.Cr,.int .i64 x.Da]
abbrev AH2(x:AR):List U:=[.int .i64 x.Id,.int .i64 x.Ab,.int .i64 x.Bs,.int .i64 x.BL,.int .i64 x.DH,.int .i64 x.Since,.int .i64 x.A3,.int .i64 x.State,.int .i64 x.DK,.int .i64 x.De]
abbrev AAm(x:BO):List U:=[.int .i64 x.Total,.int .i64 x.Et,.int .i64 x.FU,.int .i64 x.Ge,.int .i64 x.Gm]
abbrev AHz(x:Ar):List U:=[.int .i64 x.Level,.int .i64 x.A3,.int .i64 x.Id,.int .i64 x.BL]
abbrev AXu(x:Bf):List U:=[.int .i64 x.At,.int .i64 x.Id]
abbrev AH6(x:A2):List U:=[.sl (.l (.st 5)) x.Av]
abbrev AHy(x:Ak):List U:=[.int .i64 x.AZ.Total,.int .i64 x.AZ.Et,.int .i64 x.AZ.FU,.int .i64 x.AZ.Ge,.int .i64 x.AZ.Gm,.sl (.st 4) x.Row,.sl (.l (.st 5)) x.B9.Av]
abbrev AH1(x:AF):List U:=[.sl .i x.AQ.AZ,.int .i64 x.AQ.Cj,.int .i64 x.AQ.Room,.int .i64 x.AQ.BL,.int .i64 x.AQ.Ca,.int .i64 x.AQ.CD,.int .i64 x.AQ.Rest,.int .i64 x.AQ.Cr,.int .i64 x.AQ.Da,.int .i64 x.Now,.int .i64 x.A3,.sl (.st 2) x.AG,.sl (.st 7) x.AI,.sl .i x.BM,.sl .i x.BI]
abbrev AOb(x:Bp):List U:=[.str x.Data,.int .i64 x.Safe]
abbrev AH5(x:BY):List U:=[.str x.Log.Data,.int .i64 x.Log.Safe,.str x.DR.Data,.int .i64 x.DR.Safe,.str x.Odd.Data,.int .i64 x.Odd.Safe]
abbrev AAl(x:Ai):List U:=[.sl .i x.BG.AQ.AZ,.int .i64 x.BG.AQ.Cj,.int .i64 x.BG.AQ.Room,.int .i64 x.BG.AQ.BL,.int .i64 x.BG.AQ.Ca,.int .i64 x.BG.AQ.CD,.int .i64 x.BG.AQ.Rest,.int .i64 x.BG.AQ.Cr,.int .i64 x.BG.AQ.Da,.int .i64 x.BG.Now,.int .i64 x.BG.A3,.sl (.st 2) x.BG.AG,.sl (.st 7) x.BG.AI,.sl .i x.BG.BM,.sl .i x.BG.BI,.str x.Ac.Log.Data,.int .i64 x.Ac.Log.Safe,.str x.Ac.DR.Data,.int .i64 x.Ac.DR.Safe,.str x.Ac.Odd.Data,.int .i64 x.Ac.Odd.Safe,.int .i64 x.Seq,.sl (.st 0) x.Laid]
abbrev AH3(x:Ck):List U:=[.int .i64 x.Code,.sl .i x.Ids]
abbrev AH7(x:CJ):List U:=[.sl .i x.Ay.BG.AQ.AZ,.int .i64 x.Ay.BG.AQ.Cj,.int .i64 x.Ay.BG.AQ.Room,.int .i64 x.Ay.BG.AQ.BL,.int .i64 x.Ay.BG.AQ.Ca,.int .i64 x.Ay.BG.AQ.CD,.int .i64 x.Ay.BG.AQ.Rest,.int .i64 x.Ay.BG.AQ.Cr,.int .i64 x.Ay.BG.AQ.Da,.int .i64 x.Ay.BG.Now,.int .i64 x.Ay.BG.A3,.sl (.st 2) x.Ay.BG.AG,.sl (.st 7) x.Ay.BG.AI,.sl .i x.Ay.BG.BM,.sl .i x.Ay.BG.BI,.str x.Ay.Ac.Log.Data,.int .i64 x.Ay.Ac.Log.Safe,.str x.Ay.Ac.DR.Data,.int .i64 x.Ay.Ac.DR.Safe,.str x.Ay.Ac.Odd.Data,.int .i64 x.Ay.Ac.Odd.Safe,.int .i64 x.Ay.Seq,.sl (.st 0) x.Ay.Laid,.sl (.st 0) x.K7,.sl (.st 12) x.Ez,.int .i64 x.MC]
abbrev AXt(x:FJ):List U:=[.int .i64 x.Kind,.int .i64 x.Req.Kind,.int .i64 x.Req.Id,.int .i64 x.Req.Ab,.int .i64 x.Req.Bs,.int .i64 x.Req.BL,.int .i64 x.Req.DH,.int .i64 x.N_,.sl .i x.Q4]
abbrev AH0(x:By):List U:=[.int .i64 x.Seq,.str x.Body,.int .i64 x.Next]
abbrev AH8(x:Dy):List U:=[.sl .i x.VB,.int .i64 x.at_,.bool x.AAe]
abbrev AH9(x:AP):List U:=[.sl .u x.b_,.int .i64 x.i_,.int .i64 x.h_]
def AE5:(n:Nat)->tD n->List U|0,x=>AXv x|1,x=>AH4 x|2,x=>AH2 x|3,x=>AAm x|4,x=>AHz x|5,x=>AXu x|6,x=>AH6 x|7,x=>AHy x|8,x=>AH1 x|9,x=>AOb x|10,x=>AH5 x|11,x=>AAl x|12,x=>AH3 x|13,x=>AH7 x|14,x=>AXt x|15,x=>AH0 x|16,x=>AH8 x|17,x=>AH9 x|_+18,_=>[]
def cells:(c:C)->c.D->List U|.i,x=>[.int .i64 x]|.u,x=>[.u8 x]|.b,x=>[.bool x]|.s,x=>[.str x]|.m,x=>[.mp x]|.ki k,x=>[.int k x]|.z,_=>[.nil]|.l c,xs=>[.sl c xs]|.st n,x=>AE5 n x|.un n,_=>List.replicate n .un
def toI:U->Option Int|.int .i64 n=>some n|_=>none
def toU:U->Option UInt8|.u8 x=>some x|_=>none
def AXi:U->Option Bool|.bool x=>some x|_=>none
def toN(k:IntKind):U->Option Int|.int k' x=>if k'=k then some x else none|_=>none
def toZ:U->Option Unit|.nil=>some ()|_=>none
def toM:U->Option (List (Int×Int))|.mp x=>some x|_=>none
def toS:U->Option (List UInt8)|.str x=>some x|_=>none
def toL(c:C):U->Option (List c.D)|.sl c' xs=>if h:c'=c then some (h▸xs) else none|_=>none
def gI{d:Type}(us:List U)(K:Int->List U->Option d):Option d:=match us with|u::us=>(toI u).bind λa=>K a us | []=>none
def gS{d:Type}(us:List U)(K:List UInt8->List U->Option d):Option d:=match us with|u::us=>(toS u).bind λa=>K a us | []=>none
def gBo{d:Type}(us:List U)(K:Bool->List U->Option d):Option d:=match us with|u::us=>(AXi u).bind λa=>K a us | []=>none
def gL{d:Type}(c:C)(us:List U)(K:List c.D->List U->Option d):Option d:=match us with|u::us=>(toL c u).bind λa=>K a us | []=>none
def gE{d:Type}(us:List U)(a:d):Option d:=match us with | []=>some a|_::_=>none
def ATU(us:List U):Option Bo:=gI us λa0 us=>gI us λa1 us=>gI us λa2 us=>gI us λa3 us=>gI us λa4 us=>gI us λa5 us=>gE us (⟨a0,a1,a2,a3,a4,a5⟩:Bo)
def yu(us:List U):Option Ad:=gL .i us λa0 us=>gI us λa1 us=>gI us λa2 us=>gI us λa3 us=>gI us λa4 us=>gI us λa5 us=>gI us λa6 us=>gI us λa7 us=>gI us λa8 us=>gE us (⟨a0,a1,a2,a3,a4,a5,a6,a7,a8⟩:Ad)
def yr(us:List U):Option AR:=gI us λa0 us=>gI us λa1 us=>gI us λa2 us=>gI us λa3 us=>gI us λa4 us=>gI us λa5 us=>gI us λa6 us=>gI us λa7 us=>gI us λa8 us=>gI us λa9 us=>gE us (⟨a0,a1,a2,a3,a4,a5,a6,a7,a8,a9⟩:AR)
def nY(us:List U):Option BO:=gI us λa0 us=>gI us λa1 us=>gI us λa2 us=>gI us λa3 us=>gI us λa4 us=>gE us (⟨a0,a1,a2,a3,a4⟩:BO)
def yo(us:List U):Option Ar:=gI us λa0 us=>gI us λa1 us=>gI us λa2 us=>gI us λa3 us=>gE us (⟨a0,a1,a2,a3⟩:Ar)
def ATS(us:List U):Option Bf:=gI us λa0 us=>gI us λa1 us=>gE us (⟨a0,a1⟩:Bf)
def yw(us:List U):Option A2:=gL (.l (.st 5)) us λa0 us=>gE us (⟨a0⟩:A2)
def yn(us:List U):Option Ak:=gI us λa0 us=>gI us λa1 us=>gI us λa2 us=>gI us λa3 us=>gI us λa4 us=>gL (.st 4) us λa5 us=>gL (.l (.st 5)) us λa6 us=>gE us (⟨⟨a0,a1,a2,a3,a4⟩,a5,⟨a6⟩⟩:Ak)
def yq(us:List U):Option AF:=gL .i us λa0 us=>gI us λa1 us=>gI us λa2 us=>gI us λa3 us=>gI us λa4 us=>gI us λa5 us=>gI us λa6 us=>gI us λa7 us=>gI us λa8 us=>gI us λa9 us=>gI us λa10 us=>gL (.st 2) us λa11 us=>gL (.st 7) us λa12 us=>gL .i us λa13 us=>gL .i us λa14 us=>gE us (⟨⟨a0,a1,a2,a3,a4,a5,a6,a7,a8⟩,a9,a10,a11,a12,a13,a14⟩:AF)
def AGp(us:List U):Option Bp:=gS us λa0 us=>gI us λa1 us=>gE us (⟨a0,a1⟩:Bp)
def yv(us:List U):Option BY:=gS us λa0 us=>gI us λa1 us=>gS us λa2 us=>gI us λa3 us=>gS us λa4 us=>gI us λa5 us=>gE us (⟨⟨a0,a1⟩,⟨a2,a3⟩,⟨a4,a5⟩⟩:BY)
def nX(us:List U):Option Ai:=gL .i us λa0 us=>gI us λa1 us=>gI us λa2 us=>gI us λa3 us=>gI us λa4 us=>gI us λa5 us=>gI us λa6 us=>gI us λa7 us=>gI us λa8 us=>gI us λa9 us=>gI us λa10 us=>gL (.st 2) us λa11 us=>gL (.st 7) us λa12 us=>gL .i us λa13 us=>gL .i us λa14 us=>gS us λa15 us=>gI us λa16 us=>gS us λa17 us=>gI us λa18 us=>gS us λa19 us=>gI us λa20 us=>gI us λa21 us=>gL (.st 0) us λa22 us=>gE us (⟨⟨⟨a0,a1,a2,a3,a4,a5,a6,a7,a8⟩,a9,a10,a11,a12,a13,a14⟩,⟨⟨a15,a16⟩,⟨a17,a18⟩,⟨a19,a20⟩⟩,a21,a22⟩:Ai)
def yt(us:List U):Option Ck:=gI us λa0 us=>gL .i us λa1 us=>gE us (⟨a0,a1⟩:Ck)
def yx(us:List U):Option CJ:=gL .i us λa0 us=>gI us λa1 us=>gI us λa2 us=>gI us λa3 us=>gI us λa4 us=>gI us λa5 us=>gI us λa6 us=>gI us λa7 us=>gI us λa8 us=>gI us λa9 us=>gI us λa10 us=>gL (.st 2) us λa11 us=>gL (.st 7) us λa12 us=>gL .i us λa13 us=>gL .i us λa14 us=>gS us λa15 us=>gI us λa16 us=>gS us λa17 us=>gI us λa18 us=>gS us λa19 us=>gI us λa20 us=>gI us λa21 us=>gL (.st 0) us λa22 us=>gL (.st 0) us λa23 us=>gL (.st 12) us λa24 us=>gI us λa25 us=>gE us (⟨⟨⟨⟨a0,a1,a2,a3,a4,a5,a6,a7,a8⟩,a9,a10,a11,a12,a13,a14⟩,⟨⟨a15,a16⟩,⟨a17,a18⟩,⟨a19,a20⟩⟩,a21,a22⟩,a23,a24,a25⟩:CJ)
def ATQ(us:List U):Option FJ:=gI us λa0 us=>gI us λa1 us=>gI us λa2 us=>gI us λa3 us=>gI us λa4 us=>gI us λa5 us=>gI us λa6 us=>gI us λa7 us=>gL .i us λa8 us=>gE us (⟨a0,⟨a1,a2,a3,a4,a5,a6⟩,a7,a8⟩:FJ)
def yp(us:List U):Option By:=gI us λa0 us=>gS us λa1 us=>gI us λa2 us=>gE us (⟨a0,a1,a2⟩:By)
def yy(us:List U):Option Dy:=gL .i us λa0 us=>gI us λa1 us=>gBo us λa2 us=>gE us (⟨a0,a1,a2⟩:Dy)
def yz(us:List U):Option AP:=gL .u us λa0 us=>gI us λa1 us=>gI us λa2 us=>gE us (⟨a0,a1,a2⟩:AP)
def ofS:(n:Nat)->List U->Option (tD n)|0,us=>ATU us|1,us=>yu us|2,us=>yr us|3,us=>nY us|4,us=>yo us|5,us=>ATS us|6,us=>yw us|7,us=>yn us|8,us=>yq us|9,us=>AGp us|10,us=>yv us|11,us=>nX us|12,us=>yt us|13,us=>yx us|14,us=>ATQ us|15,us=>yp us|16,us=>yy us|17,us=>yz us|_+18,_=>none
def Oo:Nat->List U->Option Unit|0,[]=>some ()|n+1,.un::us=>Oo n us|_,_=>none
def of1{d:Type}(us:List U)(f:U->Option d):Option d:=match us with | [u]=>f u|_=>none
def ofC:(c:C)->List U->Option c.D|.i,us=>of1 us toI|.u,us=>of1 us toU|.b,us=>of1 us AXi|.s,us=>of1 us toS|.m,us=>of1 us toM|.ki k,us=>of1 us (toN k)|.z,us=>of1 us toZ|.l c,us=>of1 us (toL c)|.st n,us=>ofS n us|.un n,us=>Oo n us
def AYT:(n:Nat)->Option (tD n)|0=>some (⟨0,0,0,0,0,0⟩:Bo)|1=>some (⟨[],0,0,0,0,0,0,0,0⟩:Ad)|2=>some (⟨0,0,0,0,0,0,0,0,0,0⟩:AR)|3=>some (⟨0,0,0,0,0⟩:BO)|4=>some (⟨0,0,0,0⟩:Ar)|5=>some (⟨0,0⟩:Bf)|6=>some (⟨[]⟩:A2)|7=>some (⟨⟨0,0,0,0,0⟩,[],⟨[]⟩⟩:Ak)|8=>some (⟨⟨[],0,0,0,0,0,0,0,0⟩,0,0,[],[],[],[]⟩:AF)|9=>some (⟨[],0⟩:Bp)|10=>some (⟨⟨[],0⟩,⟨[],0⟩,⟨[],0⟩⟩:BY)|11=>some (⟨⟨⟨[],0,0,0,0,0,0,0,0⟩,0,0,[],[],[],[]⟩,⟨⟨[],0⟩,⟨[],0⟩,⟨[],0⟩⟩,0,[]⟩:Ai)|12=>some (⟨0,[]⟩:Ck)|13=>some (⟨⟨⟨⟨[],0,0,0,0,0,0,0,0⟩,0,0,[],[],[],[]⟩,⟨⟨[],0⟩,⟨[],0⟩,⟨[],0⟩⟩,0,[]⟩,[],[],0⟩:CJ)|14=>some (⟨0,⟨0,0,0,0,0,0⟩,0,[]⟩:FJ)|15=>some (⟨0,[],0⟩:By)|16=>some (⟨[],0,false⟩:Dy)|17=>some (⟨[],0,0⟩:AP)|_+18=>none
def AEv:(c:C)->Option c.D|.i=>some (0:Int)|.u=>some (0:UInt8)|.b=>some false|.s=>some ([]:List UInt8)|.m=>some ([]:List (Int×Int))|.ki _=>some (0:Int)|.z=>none|.l c=>some ([]:List c.D)|.st n=>AYT n|.un _=>none
def U.fg:U->T|.top=>.top|.un=>.un|.int k n=>.int k n|.u8 x=>.int .u8 x.toNat|.bool b=>.bool b|.str s=>.str s|.nil=>.nil|.np=>.np|.mp ks=>.mp ks|.sl c xs=>.sl c.size (xs.map (enc c))
def Tu:List C->Type| []=>Unit| [c]=>c.D|c::c'::cs=>c.D×Tu (c'::cs)
def S7:(cs:List C)->Tu cs->List (List T)| [],_=>[]| [c],x=>[enc c x]|c::c'::cs,x=>enc c x.1::S7 (c'::cs) x.2
def ofT:(cs:List C)->List U->Option (Tu cs)
 | [],us=>match us with | []=>some ()|_=>none
 | [c],us=>ofC c us|c::c'::cs,us=>match ofC c (us.take c.size),ofT (c'::cs) (us.drop c.size) with|some a,some b=>some (a,b)|_,_=>none
inductive PK where
 |v(c:C)|p(c:C)|b(c:C)|o(c:C)|m(c:C)|f(x:CQ)(caps:List (Bool×C))
def PK.md:PK->Md|.v _=>.v|.p _=>.p|.b _=>.b|.o _=>.o|.m _=>.m|.f _ _=>.v
def shC:C->Sh|.st _=>.agg|.un _=>.agg|_=>.one
def wC:C->Option Nat|.st n=>some (AYL n)|.un n=>some n|_=>none
def uV:List (Bool×C)->Type| []=>Unit|(_,c)::r=>c.D×uV r
def PK.D:PK->Type|.v c=>c.D|.p c=>c.D|.b c=>c.D|.o c=>c.D|.m c=>c.D|.f _ caps=>uV caps
def A:List PK->Type| []=>Unit|k::ks=>k.D×A ks
def UC:(l:List (Bool×C))->uV l->List V| [],_=>[]|(false,c)::r,x=>.v .one (enc c x.1)::UC r x.2|(true,c)::r,x=>.p (enc c x.1)::UC r x.2
def PK.V:(k:PK)->k.D->V|.v c,x=>.v (shC c) (enc c x)|.p c,x=>.p (enc c x)|.b c,x=>.b (enc c x)|.o c,x=>.o (shC c) (enc c x)|.m c,x=>.m (shC c) (enc c x)|.f x caps,y=>.f x (UC caps y)
def aVs:(ks:List PK)->A ks->List V| [],_=>[]|k::ks,x=>k.V x.1::aVs ks x.2
def NR:List PK->List C| []=>[]|.b c::r=>c::NR r|.m c::r=>c::NR r|_::r=>NR r
def fX:List PK->List CQ| []=>[]|.f x _::r=>x::fX r|_::r=>fX r
inductive RK where
 |ret(cs:List C)|ptr(k:Nat)(c:C)|vw(k:Nat)(c:C)|T8(k:Nat)(c d:C)
def RK.cs:RK->List C|.ret cs=>cs|.ptr _ c=>[c]|.vw _ c=>[.l c]|.T8 _ c d=>[c,d]
def RK.sh:RK->Sh|.ret cs=>zg (cs.map wC)|.ptr k _=>.ptr k|.vw k _=>.vw k|.T8 k _ d=>.T8 k d.size
structure GF where
 x:CQ
 ps:List PK
 rk:RK
 d:A ps->Option (Tu (rk.cs++NR ps))
 ms:FQ x=ps.map PK.md
 ok:∀a r,d a=some r->K8 x (aVs ps a) rk.sh ((S7 _ r).take rk.cs.length).flatten ((S7 _ r).drop rk.cs.length)
structure Evs where
 bd:(d e:Type)->Option d->(d->Option e)->Option e
 lp:(a e:Type)->((a->Option e)->a->Option e)->Nat->a->Option e
 jn:(a e:Type)->(a->Option e)->a->Option e
 eq:(d e:Type)->d->d->Option e->Option e
 al:(e:Type)->(Option e->Option e)->Option e->Option e
 ox:(e:Type)->Option e->Option e->Option e
def AKY{a e:Type}(F:(a->Option e)->a->Option e):Nat->a->Option e|0,_=>none|n+1,x=>F (AKY F n) x
open Classical in
def Evs.std:Evs where
 bd _ _ o f:=o.bind f
 lp _ _ F n x:=AKY F n x
 jn _ _ F x:=F x
 eq _ _ a b x:=if a=b then x else none
 al _ F x:=F x
 ox _ x y:=match x with|some r=>some r|none=>y
def evX:Evs:=Classical.choose (p:=λE=>E=Evs.std) ⟨_,rfl⟩
theorem Qk:evX=Evs.std:=Classical.choose_spec (p:=λE=>E=Evs.std) ⟨_,rfl⟩
section
def orX{e:Type}(x y:Option e):Option e:=evX.ox e x y
def br{e:Type}(b:Bool)(x y:Option e):Option e:=if b=true then x else y
def gd{e:Type}(p:Prop)[i:Decidable p](x:Option e):Option e:=if p then x else none
def bd{d e:Type}(o:Option d)(f:d->Option e):Option e:=evX.bd d e o f
def BK{a e:Type}(F:(a->Option e)->a->Option e)(n:Nat)(x:a):Option e:=evX.lp a e F n x
def jn{a e:Type}(F:a->Option e)(x:a):Option e:=evX.jn a e F x
def eqv{d e:Type}(a b:d)(x:Option e):Option e:=evX.eq d e a b x
def alt{e:Type}(F:Option e->Option e)(x:Option e):Option e:=evX.al e F x
end
theorem AYI(y:Option e):orX none y=y:=by rw[orX,Qk];rfl
theorem AYJ(r:e) y :orX (some r) y=some r:=by rw[orX,Qk];rfl
theorem AZa{e}{x y:Option e}{r}(h:orX x y=some r):x=some r\/y=some r:=by
 cases x with
 |none=>rw[AYI]at h;exact .inr h|some q=>rw[AYJ]at h;exact .inl h
theorem AYk b(x y:Option e):br b x y=if b=true then x else y:=rfl
theorem AFK{e} p  [Decidable p](x:Option e):gd p x=if p then x else none:=rfl
theorem uj o(f:d->Option e):bd o f=o.bind f:=by rw[bd,Qk];rfl
theorem AS4(F:a->Option e) x :jn F x=F x:=by rw[jn,Qk];rfl
theorem AHq F(x:Option e):alt F x=F x:=by rw[alt,Qk];rfl
open Classical in
theorem AKB(a b:d)(x:Option e):eqv a b x=if a=b then x else none:=by unfold eqv;rw[Qk];rfl
theorem Cy(a:d)(x:Option e):eqv a a x=x:=by rw[AKB,AY rfl]
theorem Uo{a b:d}(h:eqv a b x=some r):a=b/\x=some r:=by grind[AKB]
theorem AKa(F:(a->Option e)->a->Option e) x :BK F 0 x=none:=by rw[BK,Qk];rfl
theorem ED(F:(a->Option e)->a->Option e) n  x :BK F (n+1) x=F (BK F n) x:=by
 have:∀m y,BK F m y=AKY F m y:=λm y=>by rw[BK,Qk];rfl
 rw[this];show F (AKY F n) x=_;congr 1;funext y;exact(this n y).symm
inductive Cap where
 |t(x:U)|vw(k:Nat)(c:C)(xs:List c.D)|vp(k:Nat)(cs:List U)|bp(id off:Nat)
namespace Y
def mem(k:Nat):List Nat->Bool
 | []=>false|x::xs=>match Nat.beq k x with|true=>true|false=>mem k xs
def CN.is:CN->CN->Bool
 |.tmp s c,.tmp s' c'=>match Nat.beq s s' with|true=>Nat.beq c c'|false=>false
 |.cell s c,.cell s' c'=>match Nat.beq s s' with|true=>Nat.beq c c'|false=>false
 |_,_=>false
def isR(o:Option CN)(r:CN):Bool:=match o with|some r'=>CN.is r' r|none=>false
def isN(o:Option Nat)(r:Nat):Bool:=match o with|some r'=>Nat.beq r' r|none=>false
def get{d:Type}:List (Nat×d)->Nat->Option d
 | [],_=>none|(k,a)::r,s=>match Nat.beq k s with|true=>some a|false=>get r s
def put{d:Type}:List (Nat×d)->Nat->d->List (Nat×d)
 | [],s,a=>[(s,a)]|(k,b)::r,s,a=>match Nat.beq s k with
  |true=>(s,a)::r|false=>match Nat.ble s k with|true=>(s,a)::(k,b)::r|false=>(k,b)::put r s a
def LH{d:Type}(ks:List Nat):List (Nat×d)->List (Nat×d)
 | []=>[]|(k,b)::r=>match mem k ks with|true=>LH ks r|false=>(k,b)::LH ks r
def Hi{d:Type}(ks:List Nat):List (Nat×d)->List (Nat×d)
 | []=>[]|(k,b)::r=>match mem k ks with|true=>(k,b)::Hi ks r|false=>Hi ks r
inductive AS where
 |t(x:U)|und|ow(x:U)|owh(c:C)(xs:List c.D)(hs:List (Nat×Nat))|al(r:CN)(sub:Option (Nat×Nat))|ep(r:CN)(i:Int)(j:Nat)|vw(s:Src)(c:C)(xs:List c.D)|vp(s:Src)(cs:List U)|bp(id off:Nat)|fn(n:Nat)(caps:List Cap)
structure Ent where
 sh:Sh
 cs:List AS
 ver:Nat
structure Bx where
 cs:List AS
 ver:Nat
structure St where
 tm:List (Nat×Ent)
 bx:List (Nat×Bx)
 pin:List Nat
 nv:Nat
section
variable{e:Type}
def Dj(n:Nat)(K:Nat->e):e:=match n with|0=>K 0|k+1=>K (k+1)
def _root_.Lv.U.G5(x:U)(K:U->e):e:=
 match x with
 |.top=>K .top|.int k n=>K (.int k n)|.u8 x=>K (.u8 x)|.bool b=>K (.bool b)|.str s=>K (.str s)|.nil=>K .nil|.np=>K .np|.un=>K .un|.sl c xs=>K (.sl c xs)|.mp ks=>K (.mp ks)
def gW:List U->(List U->e)->e| [],K=>K []|x::xs,K=>x.G5 λx=>gW xs λxs=>K (x::xs)
def mK(r:CN)(K:CN->e):e:=
 match r with
 |.tmp s c=>Dj s λs=>Dj c λc=>K (.tmp s c)|.cell s c=>Dj s λs=>Dj c λc=>K (.cell s c)
def Uq(s:Src)(K:Src->e):e:=
 match s with
 |.own r p=>mK r λr=>match p with|none=>K (.own r none)|some (i,j)=>Dj j λj=>K (.own r (some (i,j)))
 |.old k=>Dj k λk=>K (.old k)
def AS.G5(l:AS)(K:AS->e):e:=
 match l with
 |.t x=>x.G5 λx=>K (.t x)|.und=>K .und|.ow x=>x.G5 λx=>K (.ow x)|.owh c xs hs=>K (.owh c xs hs)|.al r sub=>mK r λr=>match sub with|none=>K (.al r none)|some (a,b)=>K (.al r (some (a,b)))
 |.ep r i j=>mK r λr=>Dj j λj=>K (.ep r i j)|.vw s c xs=>Uq s λs=>K (.vw s c xs)|.vp s cs=>Uq s λs=>gW cs λcs=>K (.vp s cs)|.bp id off=>Dj id λid=>Dj off λoff=>K (.bp id off)|.fn n caps=>K (.fn n caps)
def Ql:List AS->(List AS->e)->e| [],K=>K []|x::xs,K=>x.G5 λx=>Ql xs λxs=>K (x::xs)
def Vy:List (Option Nat)->(List (Option Nat)->e)->e| [],K=>K []|none::xs,K=>Vy xs λxs=>K (none::xs)|some n::xs,K=>Dj n λn=>Vy xs λxs=>K (some n::xs)
def gV(s:Sh)(K:Sh->e):e:=
 match s with
 |.one=>K .one|.agg=>K .agg|.tup ns=>Vy ns λns=>K (.tup ns)|.ptr k=>K (.ptr k)|.vw k=>K (.vw k)|.T8 k n=>K (.T8 k n)
def wG:List (Nat×Ent)->(List (Nat×Ent)->e)->e| [],K=>K []|(k,⟨sh,cs,v⟩)::xs,K=>gV sh λsh=>Ql cs λcs=>Dj v λv=>wG xs λxs=>K ((k,⟨sh,cs,v⟩)::xs)
def wF:List (Nat×Bx)->(List (Nat×Bx)->e)->e| [],K=>K []|(k,⟨cs,v⟩)::xs,K=>Ql cs λcs=>Dj v λv=>wF xs λxs=>K ((k,⟨cs,v⟩)::xs)
def wH:List Nat->(List Nat->e)->e| [],K=>K []|x::xs,K=>wH xs λxs=>K (x::xs)
def St.G5(S:St)(K:St->e):e:=
 match S with
 |⟨tm,bx,pin,nv⟩=>wG tm λtm=>wF bx λbx=>wH pin λpin=>Dj nv λnv=>K ⟨tm,bx,pin,nv⟩
end
structure En where
 sh:Sh
 cs:List AS
def AS.CA:AS->Option CN|.al r _=>some r|.ep r _ _=>some r|.vw (.own r _) _ _=>some r|.vp (.own r _) _=>some r|_=>none
def _root_.Lv.Cap.Nn:Cap->Option Nat|.bp id _=>some id|_=>none
def AS.Nn:AS->Option Nat|.bp id _=>some id|.al (.cell id _) _=>some id|.ep (.cell id _) _ _=>some id|.vw (.own (.cell id _) _) _ _=>some id|.vp (.own (.cell id _) _) _=>some id|_=>none
def AS.AYn:AS->Option Cap|.t x=>some (.t x)|.vw (.old k) c xs=>some (.vw k c xs)|.vp (.old k) cs=>some (.vp k cs)|.bp id off=>some (.bp id off)|_=>none
def _root_.Lv.Cap.leaf:Cap->AS|.t x=>.t x|.vw k c xs=>.vw (.old k) c xs|.vp k cs=>.vp (.old k) cs|.bp id off=>.bp id off
def names:AS->List Nat|.bp id _=>[id]|.fn _ caps=>caps.filterMap Lv.Cap.Nn|_=>[]
def FD(q:AS->Bool):List AS->List AS| []=>[]|l::ls=>(if q l=true then .t .top else l)::FD q ls
def M6(v:Nat)(q:AS->Bool):List (Nat×Ent)->List (Nat×Ent)| []=>[]|(k,e)::r=>(k,if e.cs.any q=true then ⟨e.sh,FD q e.cs,v⟩ else e)::M6 v q r
def M5(v:Nat)(q:AS->Bool):List (Nat×Bx)->List (Nat×Bx)| []=>[]|(k,e)::r=>(k,if e.cs.any q=true then ⟨FD q e.cs,v⟩ else e)::M5 v q r
def St.kill(S:St)(q:AS->Bool):St:=⟨M6 S.nv q S.tm,M5 S.nv q S.bx,S.pin,S.nv+1⟩
def St.Lg(S:St)(d:Nat)(sh:Sh)(cs:List AS):St:=⟨put S.tm d ⟨sh,cs,S.nv⟩,S.bx,S.pin,S.nv+1⟩
def St.QW(S:St)(d:Nat)(cs:List AS):St:=⟨S.tm,put S.bx d ⟨cs,S.nv⟩,S.pin,S.nv+1⟩
def NP(r:CN)(l:AS):Bool:=isR l.CA r
def GS(r:CN):AS->Bool|.vw (.own r' _) _ _=>CN.is r' r|.vp (.own r' _) _=>CN.is r' r|_=>false
def Fb(d:Nat)(l:AS):Bool:=match l.CA with|some (.tmp s _)=>Nat.beq s d|_=>false
def Gb(d:Nat):AS->Bool|.fn _ caps=>caps.any λl=>isN l.Nn d|l=>isN l.Nn d
def NO(ks:List Nat):AS->Bool
 |.fn _ caps=>caps.any λl=>match l.Nn with|some d=>!mem d ks|none=>false
 |l=>match l.Nn with|some d=>!mem d ks|none=>false
def Ji(ks:List Nat)(l:AS):Bool:=
 (match l.CA with|some (.tmp s _)=>!mem s ks|_=>false)||NO ks l
def cL(ks:List Nat)(l:AS):Bool:=match l.CA with|some (.tmp s _)=>mem s ks|_=>false
def St.JT(S:St)(ks:List Nat):St:=⟨M6 S.nv (cL ks) (LH ks S.tm),M5 S.nv (cL ks) S.bx,S.pin,S.nv+1⟩
def St.clean(S:St)(ks:List Nat):St:=⟨M6 S.nv (Ji ks) (Hi ks S.tm),M5 S.nv (Ji ks) (Hi ks S.bx),S.pin,S.nv+1⟩
def AS.refs(l:AS):List Nat:=(match l.CA with|some (.tmp s _)=>[s]|some (.cell b _)=>[b]|none=>[])++names l
def AU4(ks:List Nat):List (Nat×Ent)->List Nat
 | []=>[]|(k,e)::r=>match mem k ks with|true=>e.cs.flatMap AS.refs++AU4 ks r|false=>AU4 ks r
def AU3(ks:List Nat):List (Nat×Bx)->List Nat
 | []=>[]|(k,e)::r=>match mem k ks with|true=>e.cs.flatMap AS.refs++AU3 ks r|false=>AU3 ks r
def St.clo(S:St):Nat->List Nat->List Nat
 |0,ks=>ks|n+1,ks=>match (AU4 ks S.tm++AU3 ks S.bx).filter (λk=>!mem k ks) with| []=>ks|more=>S.clo n (ks++more)
def St.iQ(S:St)(ks:List Nat):St:=S.clean (S.clo 6 (S.pin++ks))
def St.at(S:St):CN->Option AS
 |.tmp s c=>match get S.tm s with|some e=>e.cs[c]?|none=>none
 |.cell b c=>match get S.bx b with|some ls=>ls.cs[c]?|none=>none
def St.Bk(S:St)(r:CN)(l:AS):St:=
 match r with
 |.tmp s c=>match get S.tm s with|some e=>S.Lg s e.sh (e.cs.set c l)|none=>S
 |.cell b c=>match get S.bx b with|some ls=>S.QW b (ls.cs.set c l)|none=>S
inductive Rw where
 |nl|of(c:C)(xs:List c.D)
def content:U->Option Rw|.nil=>some .nl|.sl c xs=>some (.of c xs)|_=>none
def o9{d:Type}(sub:Option (Nat×Nat))(xs:List d):List d:=
 match sub with
 |none=>xs|some (lo,n)=>(xs.drop lo).take n
def Rw.sub(sub:Option (Nat×Nat)):Rw->Rw|.nl=>.nl|.of c xs=>.of c (o9 sub xs)
def Rw.as(c:C):Rw->Option (List c.D)|.nl=>some []|.of c' xs=>if h:c'=c then some (h▸xs) else none
def AHY(sub:Option (Nat×Nat)):U->U|.sl c xs=>.sl c (o9 sub xs)|x=>x
def St.elems(S:St):AS->Option Rw
 |.al r sub=>match S.at r with
  |some (.ow x)=>match content x with|some w=>some (w.sub sub)|none=>none
  |_=>none
 |.vw _ c xs=>some (.of c xs)|.t .nil=>some .nl|_=>none
def AS.ali(s c:Nat):AS->AS|.ow _=>.al (.tmp s c) none|.owh _ _ _=>.al (.tmp s c) none|l=>l
def T9(s:Nat):Nat->List AS->List AS|_,[]=>[]|c,l::ls=>l.ali s c::T9 s (c+1) ls
def tE:U->AS|.sl c xs=>.vw (.old 0) c xs|x=>.t x
inductive YO where
 |tmp(t:Nat)|k(x:U)|fn(n:Nat)
def St.rd(S:St):YO->Option En
 |.tmp s=>match get S.tm s with|some e=>some ⟨e.sh,T9 s 0 e.cs⟩|none=>none
 |.k x=>some ⟨.one,[tE x]⟩|.fn n=>some ⟨.one,[.fn n []]⟩
def St.rds(S:St):List YO->Option (List En)
 | []=>some []|x::xs=>match S.rd x,S.rds xs with|some e,some es=>some (e::es)|_,_=>none
def St.Eo(S:St)(d:Nat)(sh:Sh)(cs:List AS):Option St:=
 match mem d S.pin with|true=>none|false=>match get S.tm d with|none=>some (S.Lg d sh cs)|some _=>some ((S.kill (Fb d)).Lg d sh (FD (Fb d) cs))
def VQ(l l':AS):Bool:=
 (match l.CA with|some r=>isR l'.CA r|none=>false)||(names l).any (λid=>Gb id l')||(names l').any (λid=>Gb id l)
def Td(l l':AS):Bool:=
 (match l.CA with|some r=>isR l'.CA r|none=>false)||(names l).any (λid=>Gb id l')
def yX:AS->Bool|.al _ _=>true|_=>false
def QQ:List AS->Bool
 | []=>true|l::ls=>(ls.all λl'=>!((yX l||yX l')&&(match l.CA with|some r=>isR l'.CA r|none=>l'.CA.isNone)))&&QQ ls
def St.out(S:St)(r:CN):St:=(S.Bk r (.t .top)).kill (NP r)
def St.nl0(S:St)(r:CN)(c:C):AS:=match r with|.cell id _=>(match mem id S.pin with|true=>.vw (.old id) c []|false=>.ow (.sl c []))|.tmp _ _=>.ow (.sl c [])
def St.turn(S:St)(r:CN):St:=match S.at r with
 |some (.al r' none)=>match S.at r' with|some (.ow x)=>((S.out r').Bk r (.ow x)).Bk r' (.al r none)|some (.owh c xs hs)=>((S.out r').Bk r (.owh c xs hs)).Bk r' (.al r none)|_=>S
 |_=>S
def St.cj(S:St)(r:CN)(c:C):St:=match Nat.beq c.size 0 with
 |true=>S.turn r|false=>match S.at r with|some (.t .nil)=>S.Bk r (S.nl0 r c)|_=>S
def St.TR(S:St):List (CN×C)->St| []=>S|(r,c)::ns=>St.TR (S.cj r c) ns
def LO:St->List AS->Option (St×List AS)
 |S,[]=>some (S,[])|S,l::ls=>match l with
  |.al r sub=>match S.at r with
   |some (.ow x)=>match LO (S.out r) ls with|some (S',ls')=>some (S',.ow (AHY sub x)::ls')|none=>none
   |_=>none
  |l=>match LO S ls with|some (S',ls')=>some (S',l::ls')|none=>none
def M8(S:St)(ls:List AS):Option (St×List AS):=if QQ ls=true then LO S ls else none
def uo(S:St)(x:YO)(ls:List AS):Option (St×List AS):=match x with|.tmp s=>(match mem s S.pin with|true=>some (S,ls)|false=>M8 S ls)|_=>M8 S ls
def T1:U->Bool|.top=>true|_=>false
def cQ:U->Bool|.top=>true|.un=>true|_=>false
def St.pull(S:St)(r:CN)(i j:Nat):Option St:=
 match S.at r with
 |some (.ow (.sl c xs))=>some ((S.Bk r (.owh c xs [(i,j)])).kill (GS r))|some (.owh c xs hs)=>some ((S.Bk r (.owh c xs (hs++[(i,j)]))).kill (GS r))|_=>none
def onR(r:CN):List AS->Bool| []=>false|l::ls=>isR l.CA r||onR r ls
def D5:St->List AS->Option (St×List U)
 |S,[]=>some (S,[])|S,l::ls=>match l with
  |.t x=>if T1 x=true then none else match D5 S ls with|some (S',cs)=>some (S',x::cs)|none=>none
  |.al r sub=>match S.at r with
   |some (.ow x)=>match D5 (S.out r) ls with|some (S',cs)=>some (S',AHY sub x::cs)|none=>none
   |_=>none
  |.vw (.own r p) c xs=>match p with
   |none=>match S.at r with
    |some (.ow _)=>match D5 (S.out r) ls with|some (S',cs)=>some (S',.sl c xs::cs)|none=>none
    |_=>none
   |some (i,j)=>if onR r ls=true then none else match S.pull r i j with
    |some S1=>match D5 S1 ls with|some (S',cs)=>some (S',.sl c xs::cs)|none=>none
    |none=>none
  |_=>none
def St.IT(S:St):AS->Option U
 |.t x=>some x|.al r sub=>match S.at r with|some (.ow x)=>some (AHY sub x)|_=>none
 |.vw _ c xs=>some (.sl c xs)|.ow x=>some x|_=>none
def St.IL(S:St):List AS->Option (List U)
 | []=>some []|l::ls=>match S.IT l,S.IL ls with|some x,some xs=>some (x::xs)|_,_=>none
def Ra(k:Nat):AS->Option U|.t x=>some x|.vw (.old k') c xs=>if k'=k then some (.sl c xs) else none|_=>none
def F6(k:Nat):List AS->Option (List U)
 | []=>some []|l::ls=>match Ra k l,F6 k ls with|some x,some xs=>some (x::xs)|_,_=>none
def Df:List AS->Nat| []=>0|.vw (.old k) _ _::_=>k|_::ls=>Df ls
def Ew(k:Nat):U->AS|.sl c xs=>.vw (.old k) c xs|.mp _=>.t .top|x=>.t x
def I0:U->AS|.sl c xs=>.ow (.sl c xs)|.mp ks=>.ow (.mp ks)|.nil=>.ow .nil|x=>.t x
def MR(s:Src):U->AS|.sl c xs=>.vw s c xs|.mp _=>.t .top|x=>.t x
def Qy:List AS->Bool| []=>true|l::ls=>l.CA.isNone&&Qy ls
def TX:AS->Bool|.t _=>true|.al _ none=>true|.vw (.own _ (some _)) _ _=>true|_=>false
def AYo(S:St):Bool->Cap->Option (List U)
 |false,.t x=>some [x]|false,.vw _ c xs=>some [.sl c xs]|true,.bp id off=>match get S.bx id with|some ls=>if Qy ls.cs=true then S.IL (ls.cs.drop off) else none|none=>none
 |true,.vp _ cs=>some cs|_,_=>none
def AID(S:St):(l:List (Bool×C))->List Cap->Option (uV l)
 | [],[]=>some ()|(m,c)::r,l::ls=>match AYo S m l with
  |some us=>match ofC c us,AID S r ls with|some x,some y=>some (x,y)|_,_=>none
  |none=>none
 |_,_=>none
section
variable(R:List GF)
def AYc(S:St)(c:C)(e:En):Option c.D:=match S.IL e.cs with|some us=>ofC c us|none=>none
def AYa(S:St)(fs:List Nat)(l:List (Bool×C))(e:En):Option (uV l):=
 match e with
 |⟨.one,[.fn n caps]⟩=>match fs with|n'::_=>if n'=n then AID S l caps else none| []=>none
 |_=>none
def AYb(S:St)(c:C)(e:En):Option c.D:=
 match e with
 |⟨.one,[.bp id off]⟩=>match get S.bx id with
  |some ls=>if Qy ls.cs=true then match S.IL (ls.cs.drop off) with|some us=>ofC c us|none=>none else none
  |none=>none
 |⟨.one,[.vp _ cs]⟩=>ofC c cs|_=>none
def AYZ(S:St)(c:C)(e:En):Option c.D:=
 match e with
 |⟨.one,[.bp id 0]⟩=>match get S.bx id with
  |some ls=>match F6 (Df ls.cs) ls.cs with|some us=>ofC c us|none=>none
  |none=>none
 |_=>none
def PK.Fl:PK->Bool|.o _=>true|.m _=>true|_=>false
def PK.writes:PK->Bool|.b _=>true|.o _=>true|.m _=>true|_=>false
def IQ:List PK->List En->List AS|k::ks,e::es=>(if PK.Fl k=true then e.cs else [])++IQ ks es|_,_=>[]
def ANn:Sh->Sh->Bool|.one,.one=>true|.agg,.agg=>true|_,_=>false
def KK(S:St):List Nat->(ks:List PK)->List En->List U->Option (A ks)
 |_,[],[],_=>some ()|fs,k::ks,e::es,us=>match k with
  |.o c=>if ANn e.sh (shC c)=true then match ofC c (us.take e.cs.length),KK S fs ks es (us.drop e.cs.length) with|some x,some y=>some (x,y)|_,_=>none else none
  |.m c=>if ANn e.sh (shC c)=true/\e.cs.all TX=true/\Hz e.sh e.cs.length=true then match ofC c (us.take e.cs.length),KK S fs ks es (us.drop e.cs.length) with|some x,some y=>some (x,y)|_,_=>none else none
  |.f x l=>match AYa S fs l e,KK S fs.tail ks es us with|some x,some y=>some (x,y)|_,_=>none
  |.v c=>if ANn e.sh (shC c)=true then match AYc S c e,KK S fs ks es us with|some x,some y=>some (x,y)|_,_=>none else none
  |.p c=>match AYb S c e,KK S fs ks es us with|some x,some y=>some (x,y)|_,_=>none
  |.b c=>match AYZ S c e,KK S fs ks es us with|some x,some y=>some (x,y)|_,_=>none
 |_,_,_,_=>none
def FT:St->List PK->List En->St
 |S,k::ks,e::es=>match k with
  |.b _=>match e with
   |⟨.one,[.bp id 0]⟩=>match get S.bx id with|some ls=>FT (S.QW id (ls.cs.map λ_=>.t .top)) ks es|none=>FT S ks es
   |_=>FT S ks es
  |_=>FT S ks es
 |S,_,_=>S
def Xz(S:St)(fs:List Nat)(ks:List PK)(es:List En):Option (St×A ks):=
 match D5 S (IQ ks es) with
 |some (S1,us)=>match KK S fs ks es us with|some a=>some (FT S1 ks es,a)|none=>none
 |none=>none
def IN{F:Type}:St->List AS->List U->(St->Option F)->Option F
 |S,[],[],K=>K S|S,l::ls,o::os,K=>match l with
  |.al r none=>IN (S.Bk r (.ow o)) ls os K|.vw (.own r (some (i,j))) _ _=>match S.at r with
   |some (.owh c xs ((i',j')::hs))=>if j'=j/\hs.all (λp=>!Nat.beq p.2 j)=true then gd (i'=i) (bd xs[i]? λx=>match ofC c ((cells c x).set j o) with
    |some x'=>IN ((S.Bk r (match hs with | []=>.ow (.sl c (xs.set i x'))|_=>.owh c (xs.set i x') hs)).kill (GS r)) ls os K
    |none=>none)
    else none
   |_=>none
  |.t _=>IN S ls os K|_=>none
 |_,_,_,_=>none
def GW{F:Type}(S0:St):St->List PK->List En->List (List U)->(St->Option F)->Option F
 |S,[],_,[],K=>K S|S,k::ks,e::es,outs,K=>match k with
  |.b _=>match e,outs with
   |⟨.one,[.bp id 0]⟩,o::outs=>match get S0.bx id,get S.bx id with|some ls,some ls1=>if o.length=ls1.cs.length then GW S0 (S.QW id (o.map (Ew (Df ls.cs)))) ks es outs K else none|_,_=>none
   |_,_=>none
  |.m _=>match outs with|o::outs=>IN S e.cs o λS'=>GW S0 S' ks es outs K|_=>none
  |_=>GW S0 S ks es outs K
 |_,_,_,_,_=>none
def shares(e e':En):Bool:=e.cs.any λl=>e'.cs.any λl'=>VQ l l'
def Re:List En->List PK->List En->Bool|prev,k::ks,e::es=>(PK.writes k&&(prev.any (shares e)||es.any (shares e)))||Re (e::prev) ks es|_,_,_=>false
def AHS:Option En->Option U|some ⟨.one,[.t x]⟩=>some x|_=>none
def St.sc(S:St)(x:YO):Option U:=AHS (S.rd x)
def Aag:U->Option Int|.int _ n=>some n|.u8 x=>some (x.toNat:Int)|_=>none
def St.nat(S:St)(x:YO):Option Int:=match S.sc x with|some u=>Aag u|none=>none
def St.one(S:St)(x:YO):Option AS:=match S.rd x with|some ⟨.one,[l]⟩=>some l|_=>none
def eqU:Kd->U->U->Option Bool|.i,.int k a,.int k' b=>if k=k' then some (a==b) else none|.b,.bool a,.bool b=>some (a==b)|.s,.str a,.str b=>some (a==b)|_,_,_=>none
def ACx:List Kd->List U->List U->Option Bool
 | [],[],[]=>some true|k::ks,a::as,b::bs=>match eqU k a b,ACx ks as bs with|some x,some y=>some (x&&y)|_,_=>none
 |_,_,_=>none
def Xn:List AS->Option (List U)
 | []=>some []|.t x::ls=>match Xn ls with|some us=>some (x::us)|none=>none
 |_=>none
section
variable{F:Type}
def gdc(cst:Bool)(p:Prop) [Decidable p] (x:Option F):Option F:=match cst with|true=>if p then x else none|false=>gd p x
def AY8(cst:Bool)(op:BinOp)(k:IntKind)(a b:Int)(K:U->Option F):Option F:=
 match op with
 |.add=>K (.int k (k.wrap (a+b)))|.sub=>K (.int k (k.wrap (a-b)))|.mul=>K (.int k (k.wrap (a*b)))|.quo=>gdc cst (b≠0) (K (.int k (k.wrap (a.tdiv b))))|.rem=>gdc cst (b≠0) (K (.int k (a.tmod b)))|.and=>K (.int k (k.wrap (BitVec.ofInt k.bits a &&& BitVec.ofInt k.bits b).toNat))|.or=>K (.int k (k.wrap (BitVec.ofInt k.bits a |||BitVec.ofInt k.bits b).toNat))|.xor=>K (.int k (k.wrap (BitVec.ofInt k.bits a ^^^ BitVec.ofInt k.bits b).toNat))|.eql=>K (.bool (a==b))|.neq=>K (.bool (a != b))|.lss=>K (.bool (decide (a<b)))|.leq=>K (.bool (decide (a<=b)))|.gtr=>K (.bool (decide (a>b)))|.geq=>K (.bool (decide (a>=b)))|_=>none
def shU(cst:Bool)(op:BinOp)(k:IntKind)(a b:Int)(K:U->Option F):Option F:=
 match op with
 |.shl=>gdc cst (¬b<0) (K (.int k (k.wrap (a*2 ^ (min b.toNat k.bits)))))|.shr=>gdc cst (¬b<0) (K (.int k (a.fdiv (2 ^ (min b.toNat k.bits)))))|_=>none
def byU(op:BinOp)(a b:Int)(K:U->Option F):Option F:=
 match op with
 |.add=>K (.u8 (toB (a+b)))|.sub=>K (.u8 (toB (a-b)))|.mul=>K (.u8 (toB (a*b)))|.and=>K (.u8 (toB (BitVec.ofInt IntKind.u8.bits a &&& BitVec.ofInt IntKind.u8.bits b).toNat))|.or=>K (.u8 (toB (BitVec.ofInt IntKind.u8.bits a |||BitVec.ofInt IntKind.u8.bits b).toNat))|.xor=>K (.u8 (toB (BitVec.ofInt IntKind.u8.bits a ^^^ BitVec.ofInt IntKind.u8.bits b).toNat))|.eql=>K (.bool (a==b))|.neq=>K (.bool (a != b))|.lss=>K (.bool (decide (a<b)))|.leq=>K (.bool (decide (a<=b)))|.gtr=>K (.bool (decide (a>b)))|.geq=>K (.bool (decide (a>=b)))|_=>none
def AWs:BinOp->Bool|.shl=>true|.shr=>true|_=>false
def AYh(cst:Bool)(op:BinOp):U->U->(U->Option F)->Option F
 |.int k a,.int k' b,K=>if AWs op=true then shU cst op k a b K else if k=k' then (if k=.u8 then none else AY8 cst op k a b K) else none|.int k a,.u8 b,K=>if AWs op=true then shU cst op k a b.toNat K else none|.u8 a,.u8 b,K=>byU op a.toNat b.toNat K|.str a,.str b,K=>match op with|.add=>gd (a.length+b.length<=QL) (K (.str (a++b)))|.eql=>K (.bool (a==b))|.neq=>K (.bool (a != b))|_=>none
 |_,_,_=>none
def eqK(op:BinOp)(b:Bool)(K:U->Option F):Option F:=match op with|.eql=>K (.bool b)|.neq=>K (.bool !b)|_=>none
def St.XS(S:St)(l:AS)(K:Bool->Option F):Option F:=
 match l with
 |.t .nil=>K true|.vw _ _ xs=>gd (xs.isEmpty=false) (K false)|.al r none=>match S.at r with|some (.ow .nil)=>K true|some (.ow (.sl _ xs))=>gd (xs.isEmpty=false) (K false)|_=>none
 |_=>none
def St.bin(S:St)(cst:Bool)(c:Cls)(op:BinOp)(x y:En)(K:U->Option F):Option F:=
 match c with
 |.num=>match x,y with|⟨.one,[.t a]⟩,⟨.one,[.t b]⟩=>AYh cst op a b K|_,_=>none
 |.bool=>match x,y with|⟨.one,[.t (.bool a)]⟩,⟨.one,[.t (.bool b)]⟩=>eqK op (a==b) K|_,_=>none
 |.sl=>match x,y with|⟨.one,[l]⟩,⟨.one,[.t .nil]⟩=>S.XS l λb=>eqK op b K|_,_=>none
 |.agg ks=>match x,y with
  |⟨.agg,as⟩,⟨.agg,bs⟩=>match Xn as,Xn bs with
   |some as,some bs=>match ACx ks as bs with|some b=>eqK op b K|none=>none
   |_,_=>none
  |_,_=>none
def unU(op:UnOp)(x:U)(K:U->Option F):Option F:=
 match x with
 |.bool b=>match op with|.not=>K (.bool !b)|_=>none
 |.int k n=>match op with|.neg=>if k=.u8 then none else K (.int k (k.wrap (0-n)))|_=>none
 |_=>none
def mkInt(k:IntKind)(n:Int):U:=match k with|.u8=>.u8 (toB n)|k=>.int k (k.wrap n)
end
def AX3:List U->Bool| []=>true|.sl _ _::_=>false|.top::_=>false|.mp _::_=>false|_::us=>AX3 us
def Wf:C->Bool
 |.l _=>false|.m=>false|.st n=>match AYT n with|some z=>AX3 (AE5 n z)|none=>false
 |.un _=>false|_=>true
def AV4(c:C)(x:U)(ys:List c.D):Option U:=
 match x with
 |.sl c' xs=>if h:c'=c then some (.sl c ((h▸xs)++ys)) else none|_=>some (.sl c ys)
def RT(c:C)(fl:Bool)(S:St)(l:AS):Option (St×List c.D):=
 match l with
 |.t (.str s)=>match Rw.as c (.of .u s) with|some xs=>some (S,xs)|none=>none
 |.t .nil=>some (S,[])|.vw _ c' xs=>if Wf c=true then match Rw.as c (.of c' xs) with|some ys=>some (S,ys)|none=>none else none
 |.al r sub=>match S.at r with
  |some (.ow x)=>match content x with
   |some w=>match Rw.as c (w.sub sub) with|some ys=>if fl=true then (if Wf c=true then some (S,ys) else none) else some (S.out r,ys)|none=>none
   |none=>none
  |_=>none
 |_=>none
def Tv(c:C)(S:St)(l:AS):Option (St×U×Nat×Option (Nat×Nat)):=
 match l with
 |.t .nil=>some (S,.nil,0,none)|.al r sub=>match S.at r with
  |some (.ow x)=>match content x with
   |some w=>match Rw.as c w with
    |some xs=>some (S.out r,AHY sub x,(o9 sub xs).length,match sub with|none=>none|some (lo,n)=>some (lo+n,xs.length))
    |none=>none
   |none=>none
  |_=>none
 |.vw (.own r (some (i,j))) c' xs=>if c'=c then match S.pull r i j with|some S'=>some (S',.sl c' xs,xs.length,none)|none=>none else none
 |_=>none
def gdo{e:Type}(p:Option (Nat×Nat))(x:Option e):Option e:=match p with|none=>x|some (a,b)=>gd (a=b) x
def OX(off:Nat):AS->Option AS|.bp id o=>some (.bp id (o+off))|.ep r i j=>some (.ep r i (j+off))|.vp s cs=>some (.vp s (cs.drop off))|_=>none
def K4(r:CN)(i:Nat):Nat->List U->List AS|_,[]=>[]|j,x::xs=>MR (.own r (some (i,j))) x::K4 r i (j+1) xs
def Ss(b:Nat):Nat->List AS->List AS|_,[]=>[]|c,.ow _::ls=>.al (.cell b c) none::Ss b (c+1) ls|c,.owh _ _ _::ls=>.al (.cell b c) none::Ss b (c+1) ls|c,l::ls=>l::Ss b (c+1) ls
def JH(b o n:Nat)(l:AS):Bool:=match l.CA with|some (.cell b' c)=>Nat.beq b' b&&Nat.ble o c&&Nat.blt c (o+n)|_=>false
def I6:List AS->Bool| []=>false|.t .top::_=>true|.und::_=>true|_::ls=>I6 ls
def T0:AS->Bool|.bp _ _=>true|.ep _ _ _=>true|.vp _ _=>true|_=>false
section
variable{F:Type}
def St.load(S:St)(n:Nat)(l:AS)(K:List AS->Option F):Option F:=
 match l with
 |.bp id o=>match get S.bx id with|some ls=>if o+n<=ls.cs.length then K (Ss id o ((ls.cs.drop o).take n)) else none|none=>none
 |.ep r i j=>match S.at r with|some (.ow (.sl c xs))=>bd (at? xs i) λx=>if j+n<=(cells c x).length then K (K4 r i.toNat j (((cells c x).drop j).take n)) else none|_=>none
 |.vp s cs=>if n<=cs.length then K ((cs.take n).map (MR s.up)) else none|_=>none
def OR(i j n:Nat):List (Nat×Nat)->Prop| []=>True|(i',j')::hs=>i'=i/\(j<=j'/\j'<j+n)/\OR i j n hs
def ga(i j n:Nat):(hs:List (Nat×Nat))->Decidable (OR i j n hs)| []=>.isTrue trivial|(i',j')::hs=>@instDecidableAnd _ _ (instDecidableEqNat i' i) (@instDecidableAnd _ _ (@instDecidableAnd _ _ (Nat.decLe j j') (Nat.decLt j' (j+n))) (ga i j n hs))
def af(n:Nat)(S:St)(ls:List AS):Option (St×List AS):=match Nat.blt n 1048576 with|true=>M8 S ls|false=>some (S,ls)
def St.Tj(S:St)(n:Nat)(p:AS)(cs:List AS)(K:St->Option F):Option F:=
 match p with
 |.bp id o=>match af n S cs with
  |some (S',cs')=>if I6 cs'=true then none else
   let S2:=S'.kill (JH id o cs'.length);match get S2.bx id with
   |some ls=>if o+cs'.length<=ls.cs.length then K (S2.QW id (ES ls.cs o (FD (JH id o cs'.length) cs'))) else none|none=>none
  |none=>none
 |.ep r i j=>match D5 S cs with
  |some (S',us)=>match S'.at r with
   |some (.ow (.sl c xs))=>bd (at? xs i) λx=>if j+us.length<=(cells c x).length then match ofC c (ES (cells c x) j us) with
    |some x'=>K ((S'.Bk r (.ow (.sl c (xs.set i.toNat x')))).kill (GS r))|none=>none
    else none
   |some (.owh c xs hs)=>bd (at? xs i) λx=>if j+us.length<=(cells c x).length then match ofC c (ES (cells c x) j us) with
    |some x'=>@gd _ (OR i.toNat j us.length hs) (ga i.toNat j us.length hs) (K ((S'.Bk r (.ow (.sl c (xs.set i.toNat x')))).kill (GS r)))|none=>none
    else none
   |_=>none
  |none=>none
 |_=>none
end
def OI(S:St):List AS->List (Nat×Nat×YO)->Option (List AS)
 |ls,[]=>some ls|ls,(o,n,x)::ps=>match S.rd x with|some e=>if e.cs.length=n/\Hz e.sh n=true/\I6 e.cs=false/\o+n<=ls.length then OI S (ES ls o e.cs) ps else none|none=>none
def ADN(i n:Nat):List (Nat×YO)->Bool| []=>i==n|(k,_)::ps=>k==i&&ADN (i+1) n ps
def bsL(c:C)(n:Nat):St->List (Nat×YO)->Option (St×List c.D)
 |S,[]=>some (S,[])|S,(i,x)::ps=>match S.rd x with
  |some e=>if e.cs.length=c.size/\Hz e.sh e.cs.length=true/\i<n then match D5 S e.cs with
   |some (S',us)=>match ofC c us,bsL c n S' ps with|some y,some (S2,ys)=>some (S2,y::ys)|_,_=>none
   |none=>none
   else none
  |none=>none
def bsK(c:C)(n:Nat):St->List c.D->List (Nat×YO)->Option (St×List c.D)
 |S,xs,[]=>some (S,xs)|S,xs,(i,x)::ps=>match S.rd x with
  |some e=>if e.cs.length=c.size/\Hz e.sh e.cs.length=true/\i<n then match D5 S e.cs with
   |some (S',us)=>match ofC c us with|some y=>bsK c n S' (xs.set i y) ps|none=>none
   |none=>none
   else none
  |none=>none
def ADO:Sh->Bool|.one=>true|_=>false
def St.wide(S:St)(c:C):AS->Bool
 |.vw _ c' _=>decide (c'=c)|.al r _=>match S.at r with
  |some (.ow x)=>match x with|.sl c' _=>decide (c'=c)|_=>true
  |some (.owh c' _ _)=>decide (c'=c)|_=>false
 |_=>true
inductive YOp where
 |mv(d:Nat)(x:YO)|as(d:Nat)(x:YO)|pick(d:Nat)(c a b:YO)|alloc(d:Nat)(zs:List U)|box(d:Nat)(x:YO)|build(d:Nat)(zs:List U)(parts:List (Nat×Nat×YO))|CF(d:Nat)(n:Nat)(c:C)(parts:List (Nat×YO))|ld(d:Nat)(n:Option Nat)(x:YO)|st(n:Nat)(x v:YO)|chk(d:Nat)(x:YO)|bin(d:Nat)(c:Cls)(op:BinOp)(x y:YO)|un(d:Nat)(op:UnOp)(x:YO)|cvI(d:Nat)(k:IntKind)(x:YO)|OK(d:Nat)(x:YO)|RA(d:Nat)(x:YO)|O0(d:Nat)(n:Nat)(caps:List YO)|T6(d:Nat)(c:C)(n:YO)|sub(d:Nat)(c:C)(x:YO)(lo hi:Option YO)|Xl(d:Nat)(x:YO)(lo hi:Option YO)|fa(d:Nat)(off:Nat)(x:YO)|fld(d:Nat)(off:Nat)(n:Option Nat)(x:YO)|ia(d:Nat)(c:C)(x i:YO)|ix(d:Nat)(x i:YO)|ext(d:Nat)(x:YO)(i:Nat)|call (d:Nat) (g:GF) (fs:List Nat) (hf:fs.map (λn=>(R[n]?).map GF.x)=(fX g.ps).map some) (args:List YO)|Eh(d:Nat)(x:YO)(ms:List Md)(args:List YO)|len(d:Nat)(x:YO)|lens(d:Nat)(x:YO)|app(d:Nat)(c:C)(fl:Bool)(x y:YO)|UA(d:Nat)(c:C)(x n:YO)|cpy(d:Nat)(c:C)(x y:YO)|mm(d:Nat)(isMax:Bool)(x y:YO)|mmk(d:Nat)|WT(d:Nat)(x k:YO)|VD(x k v:YO)|WU(d:Nat)(x:YO)|bad(d:Option Nat)|drop(ds:List Nat)|SL(ns:List (CN×C))
section
variable {R} {F:Type}
def range(S:St)(len:Nat)(lo hi:Option YO)(K:Nat->Nat->Option F):Option F:=
 match lo,hi with
 |none,none=>K 0 len|some x,none=>match S.nat x with|some a=>gd (0<=a/\a<=(len:Int)) (K a.toNat len)|none=>none
 |none,some y=>match S.nat y with|some b=>gd (0<=b/\b<=(len:Int)) (K 0 b.toNat)|none=>none
 |some x,some y=>match S.nat x,S.nat y with|some a,some b=>gd (0<=a/\a<=b/\b<=(len:Int)) (K a.toNat b.toNat)|_,_=>none
def part{d:Type}(lo hi:Option YO)(xs:List d)(a b:Nat):List d:=
 match lo,hi with
 |none,none=>xs|some _,none=>xs.drop a|none,some _=>xs.take b|some _,some _=>(xs.drop a).take (b-a)
def AXE{d e:Type}(s:Nat)(a:d):List (Nat×d)->(List (Nat×d)->e)->e
 | [],K=>K [(s,a)]|(k,b)::r,K=>match Nat.beq s k with
  |true=>K ((s,a)::r)|false=>match Nat.ble s k with|true=>K ((s,a)::(k,b)::r)|false=>AXE s a r λr=>K ((k,b)::r)
def IU(S:St)(d:Nat)(sh:Sh)(cs:List AS)(K:St->Option F):Option F:=
 match mem d S.pin with
 |true=>none|false=>match get S.tm d with|none=>gV sh λsh=>Ql cs λcs=>Dj S.nv λv=>AXE d ⟨sh,cs,v⟩ S.tm λtm=>K ⟨tm,S.bx,S.pin,v+1⟩|some _=>((S.kill (Fb d)).Lg d sh (FD (Fb d) cs)).G5 K
def nG(S:St)(e:En):Option Nat:=
 match e with
 |⟨.one,[.bp id _]⟩=>match get S.bx id with|some ls=>if (F6 (Df ls.cs) ls.cs).isSome=true then some (Df ls.cs) else none|none=>none
 |e=>if (F6 (Df e.cs) e.cs).isSome=true then some (Df e.cs) else none
def cV(ks:List PK)(S0:St)(es:List En)(k:Nat):Option Nat:=
 match es[k]? with
 |some e=>match ks[k]? with|some (.p _)=>none|_=>nG S0 e
 |none=>none
def AKd(S:St)(d:Nat)(ls:List AS)(sh:Sh)(cs:List AS)(K:St->Option F):Option F:=
 match mem d S.pin with|true=>none|false=>K (((S.kill (λl=>Fb d l||Gb d l)).Lg d sh cs).QW d ls)
def Qt(S:St)(d:Nat)(ls:List AS)(K:St->Option F):Option F:=AKd S d ls .one [.bp d 0] K
def OJ:(cs:List C)->Tu cs->List (List U)| [],_=>[]| [c],x=>[cells c x]|c::c'::cs,x=>cells c x.1::OJ (c'::cs) x.2
def post(d:Nat)(g:GF)(es:List En)(S0 S:St)(r:Tu (g.rk.cs++NR g.ps))(K:St->Option F):Option F:=
 GW S0 S g.ps es ((OJ _ r).drop g.rk.cs.length) λS'=>
  match g.rk with
  |.ptr k _=>match cV g.ps S0 es k with|some lab=>Qt S' d (((OJ _ r).take g.rk.cs.length).flatten.map (Ew lab)) K|none=>none
  |.vw k _=>match cV g.ps S0 es k with|some lab=>IU S' d .one (((OJ _ r).take g.rk.cs.length).flatten.map (Ew lab)) K|none=>none
  |.T8 k _ c=>match cV g.ps S0 es k with
   |some lab=>Ql ((((OJ _ r).take g.rk.cs.length).flatten.take (((OJ _ r).take g.rk.cs.length).flatten.length-c.size)).map (Ew lab)) λls=>Ql ((((OJ _ r).take g.rk.cs.length).flatten.drop (((OJ _ r).take g.rk.cs.length).flatten.length-c.size)).map I0) λcs=>
    Dj c.size λn=>AKd S' d ls (.tup [none,some n]) (.bp d 0::cs) K
   |none=>none
  |.ret cs=>IU S' d (zg (cs.map wC)) (((OJ _ r).take g.rk.cs.length).flatten.map I0) K
def AIC(d:Nat)(g:GF)(fs:List Nat)(es:List En)(S:St)(K:St->Option F):Option F:=
 match Re [] g.ps es with
 |true=>none|false=>match Xz S fs g.ps es with|some (S1,a)=>bd (g.d a) λr=>post d g es S S1 r K|none=>none
def ud(es:List En):Option (List Cap):=
 match es with
 | []=>some []|⟨.one,[l]⟩::es=>match l.AYn,ud es with|some c,some cs=>some (c::cs)|_,_=>none
 |_=>none
def St.SJ(S:St)(x:YO):Option (CN×List (Int×Int)):=
 match S.one x with
 |some (.al r none)=>match S.at r with|some (.ow (.mp ks))=>some (r,ks)|_=>none
 |_=>none
def ev(o:YOp R)(S:St)(K:St->Option F):Option F:=
 match o with
 |.mv d x=>match S.rd x with|some e=>IU S d e.sh e.cs K|none=>none
 |.as d x=>match S.rd x with
  |some e=>match M8 S e.cs with|some (S',cs)=>IU S' d e.sh cs K|none=>none
  |none=>none
 |.pick d c a b=>match S.sc c,S.rd a,S.rd b with|some (.bool t),some ea,some eb=>br t (IU S d ea.sh ea.cs K) (IU S d eb.sh eb.cs K)|_,_,_=>none
 |.alloc d zs=>Qt S d (zs.map .t) K|.box d x=>match S.rd x with
  |some e=>match uo S x e.cs with
   |some (S1,cs)=>if I6 cs=true\/Hz e.sh e.cs.length=false then none else
    Qt S1 d (FD (λl=>Fb d l||Gb d l) cs) K
   |none=>none
  |none=>none
 |.build d zs parts=>match OI S (zs.map .t) parts with|some ls=>IU S d .agg ls K|none=>none
 |.CF d n c parts=>match AEv c with
  |some z=>if n*c.size<=16777216 then match (if ADN 0 n parts=true then bsL c n S parts else bsK c n S (List.replicate n z) parts) with
   |some (S',xs)=>IU S' d .one [.ow (.sl c xs)] K|none=>none
   else none
  |none=>none
 |.ld d n x=>match S.one x with|some p=>S.load (Dx n) p λls=>IU S d (shN n) ls K|none=>none
 |.st n x v=>match S.one x,S.rd v with|some p,some e=>if e.cs.length=n % 1048576/\Hz e.sh (n % 1048576)=true then S.Tj n p e.cs K else none|_,_=>none
 |.chk d x=>match S.one x with|some p=>if T0 p=true then IU S d .one [p] K else none|none=>none
 |.bin d c op x y=>match S.rd x,S.rd y with
  |some ex,some ey=>S.bin (match y with|.k _=>true|_=>false) c op ex ey λt=>IU S d .one [.t t] K
  |_,_=>none
 |.un d op x=>match S.sc x with|some a=>unU op a λt=>IU S d .one [.t t] K|none=>none
 |.cvI d k x=>match S.nat x with|some n=>IU S d .one [.t (mkInt k n)] K|none=>none
 |.OK d x=>match S.sc x with|some (.str s)=>IU S d .one [.ow (.sl .u s)] K|_=>none
 |.RA d x=>match S.one x with
  |some l=>match S.elems l with
   |some w=>match Rw.as .u w with|some bs=>IU S d .one [.t (.str bs)] K|none=>none
   |none=>none
  |none=>none
 |.O0 d n caps=>match S.rds caps with
  |some es=>match ud es with|some cs=>IU S d .one [.fn n cs] K|none=>none
  |none=>none
 |.T6 d c n=>match S.nat n with
  |some n=>match AEv c with|some z=>gd (0<=n/\n<=(lim:Int)) (IU S d .one [.ow (.sl c (List.replicate n.toNat z))] K)|none=>none
  |none=>none
 |.Xl d x lo hi=>match S.sc x with|some (.str s)=>range S s.length lo hi λa b=>IU S d .one [.t (.str (part lo hi s a b))] K|_=>none
 |.sub d c x lo hi=>match S.one x with
  |some l=>if S.wide c l=true then match l with
   |.al r sub=>match S.elems l with
    |some w=>match Rw.as c w with
     |some xs=>range S xs.length lo hi λa b=>IU S d .one [.al r (some (match sub with|none=>(a,b-a)|some (lo0,_)=>(lo0+a,b-a)))] K
     |none=>none
    |none=>none
   |.vw s c' xs=>range S xs.length lo hi λa b=>IU S d .one [.vw s.up c' (part lo hi xs a b)] K|.t .nil=>range S 0 lo hi λ_ _=>IU S d .one [.t .nil] K|_=>none
   else none
  |none=>none
 |.fa d off x=>match S.one x with
  |some p=>match OX off p with|some q=>IU S d .one [q] K|none=>none
  |none=>none
 |.fld d off n x=>match S.rd x with|some ⟨.agg,cs⟩=>if off+Dx n<=cs.length then IU S d (shN n) ((cs.drop off).take (Dx n)) K else none|_=>none
 |.ia d c x i=>match S.one x,S.nat i with
  |some l,some n=>if S.wide c l=true then match l with
   |.al r sub=>match S.elems l with
    |some (.of _ xs)=>bd (at? xs n) λ_=>IU S d .one [.ep r (match sub with|none=>n|some (lo,_)=>(lo:Int)+n) 0] K
    |_=>match sub with
     |none=>match S.at r with|some (.owh _ xs _)=>bd (at? xs n) λ_=>IU S d .one [.ep r n 0] K|_=>none
     |_=>none
   |.vw s c' xs=>bd (at? xs n) λx=>IU S d .one [.vp s.up (cells c' x)] K|_=>none
   else none
  |_,_=>none
 |.ix d x i=>match S.sc x,S.nat i with|some (.str s),some n=>bd (at? s n) λx=>IU S d .one [.t (.u8 x)] K|_,_=>none
 |.ext d x i=>match x with
  |.tmp s=>match get S.tm s with
   |some ⟨.tup ns,cs,_⟩=>match ns[i]? with
    |some n=>
     let o:=VY (ns.take i);if o+Dx n<=cs.length then match M8 S (((T9 s 0 cs).drop o).take (Dx n)) with|some (S',ls)=>IU S' d (shN n) ls K|none=>none
     else none
    |none=>none
   |_=>none
  |_=>none
 |.lens d x=>match S.sc x with|some (.str s)=>IU S d .one [.t (.int .i64 s.length)] K|_=>none
 |.len d x=>match S.one x with
  |some l=>match S.elems l with|some (.of _ xs)=>IU S d .one [.t (.int .i64 xs.length)] K|some .nl=>IU S d .one [.t (.int .i64 0)] K|none=>none
  |none=>none
 |.app d c fl x y=>match S.one x,S.one y with
  |some lx,some ly=>match RT c fl S ly with
   |some (S1,ys)=>match Tv c S1 lx with
    |some (S2,b,n,e)=>gdo e (gd (n+ys.length<=lim) (match AV4 c b ys with|some u=>IU S2 d .one [.ow u] K|none=>none))
    |none=>none
   |none=>none
  |_,_=>none
 |.UA d c x n=>match S.one x,S.nat n,AEv c with
  |some lx,some k,some z=>gd (0<=k/\k<=(lim:Int)) (match Tv c S lx with
   |some (S2,b,n,e)=>gdo e (gd (n+k.toNat<=lim) (match AV4 c b (List.replicate k.toNat z) with|some u=>IU S2 d .one [.ow u] K|none=>none))
   |none=>none)
  |_,_,_=>none
 |.cpy d c x y=>match S.one x,S.one y with
  |some (.al r none),some ly=>match S.at r,S.elems ly with
   |some (.ow (.sl c' xs)),some w=>match Rw.as c w,Rw.as c (.of c' xs) with
    |some ys,some xs=>if S.wide c ly=true/\Wf c=true then
     gd (xs.isEmpty=false) (IU ((S.Bk r (.ow (.sl c (ys.take xs.length++xs.drop ys.length)))).kill (GS r)) d .one [.t (.int .i64 (min ys.length xs.length:Nat))] K)
     else none
    |_,_=>none
   |_,_=>none
  |_,_=>none
 |.mm d isMax x y=>match S.sc x,S.sc y with|some (.int k a),some (.int k' b)=>if k'=k then IU S d .one [.t (.int k (if isMax=true then (if b>a then b else a) else (if b<a then b else a)))] K else none|_,_=>none
 |.mmk d=>IU S d .one [.ow (.mp [])] K|.WT d x k=>match S.SJ x,S.sc k with|some (_,ks),some (.int .i64 n)=>IU S d .one [.t (.int .i64 (OV ks n))] K|_,_=>none
 |.VD x k v=>match S.SJ x,S.sc k,S.sc v with|some (r,ks),some (.int .i64 n),some (.int .i64 m)=>K ((S.Bk r (.ow (.mp (K5 ks n m)))).kill (GS r))|_,_,_=>none
 |.WU d x=>match S.SJ x with|some (_,ks)=>IU S d .one [.t (.int .i64 ks.length)] K|none=>none
 |.bad _=>none|.drop ds=>K (S.JT ds)|.SL ns=>K (S.TR ns)|.call d g fs _ args=>match S.rds args with|some es=>AIC d g fs es S K|none=>none
 |.Eh d x ms args=>match S.one x,S.rds args with
  |some (.fn n caps),some es=>match R[n]? with|some g=>if g.ps.map PK.md=ms then AIC d g [] (es++caps.map λl=>⟨.one,[l.leaf]⟩) S K else none|none=>none
  |_,_=>none
def YOp.mE:YOp R->Option Nat|.mv d _=>some d|.as d _=>some d|.pick d _ _ _=>some d|.alloc d _=>some d|.box d _=>some d|.build d _ _=>some d|.CF d _ _ _=>some d|.ld d _ _=>some d|.chk d _=>some d|.bin d _ _ _ _=>some d|.un d _ _=>some d|.cvI d _ _=>some d|.OK d _=>some d|.RA d _=>some d|.O0 d _ _=>some d|.T6 d _ _=>some d|.sub d _ _ _ _=>some d|.Xl d _ _ _=>some d|.fa d _ _=>some d|.fld d _ _ _=>some d|.ia d _ _ _=>some d|.ix d _ _=>some d|.ext d _ _=>some d|.call d _ _ _ _=>some d|.Eh d _ _ _=>some d|.len d _=>some d|.lens d _=>some d|.app d _ _ _ _=>some d|.UA d _ _ _=>some d|.cpy d _ _ _=>some d|.mm d _ _ _=>some d|.mmk d=>some d|.WT d _ _=>some d|.WU d _=>some d|.VD _ _ _=>none|.bad d=>d|.st _ _ _=>none|.drop _=>none|.SL _=>none
def YOp.simple:YOp R->Bool|.mv _ _=>true|.as _ _=>true|.pick _ _ _ _=>true|.ld _ _ _=>true|.chk _ _=>true|.bin _ _ _ _ _=>true|.un _ _ _=>true|.cvI _ _ _=>true|.OK _ _=>true|.RA _ _=>true|.T6 _ _ _=>true|.sub _ _ _ _ _=>true|.Xl _ _ _ _=>true|.fa _ _ _=>true|.fld _ _ _ _=>true|.ia _ _ _ _=>true|.ix _ _ _=>true|.len _ _=>true|.lens _ _=>true|.mm _ _ _ _=>true|.mmk _=>true|.WT _ _ _=>true|.WU _ _=>true|.call _ g _ _ _=>!(g.ps.any PK.writes)|_=>false
def OC(o:YOp R)(S:St)(K:St->Option F):Option F:=match o.mE with|some d=>IU S d .one [.und] K|none=>K S
def reE(s:Nat)(e:Ent):List (Nat×Ent)->List (Nat×Ent)
 | []=>[]|(k,x)::r=>match Nat.beq k s with|true=>(k,e)::r|false=>(k,x)::reE s e r
def St.lit(S:St)(s:Nat)(b:Bool):St:=⟨reE s ⟨.one,[.t (.bool b)],S.nv⟩ S.tm,S.bx,S.pin,S.nv+1⟩
def nh(w:Bool)(o:YOp R)(S:St)(f:Option F)(K:St->Option F):Option F:=match w with|true=>f|false=>OC o S K
def evg(g:Option (Nat×Bool))(o:YOp R)(S:St)(K:St->Option F):Option F:=
 match g with
 |none=>ev o S K|some (s,w)=>match get S.tm s with
  |some ⟨.one,[.t (.bool b)],_⟩=>
   br b (nh w o (S.lit s true) (ev o (S.lit s true) K) K) (nh (!w) o (S.lit s false) (ev o (S.lit s false) K) K)
  |some ⟨.one,[.und],_⟩=>OC o S K|_=>none
def evs:List (Option (Nat×Bool)×YOp R)->St->(St->Option F)->Option F
 | [],S,K=>K S|(g,o)::r,S,K=>match o.simple with|true=>evg g o S λS'=>evs r S' K|false=>evg g o S λS'=>S'.G5 λS'=>evs r S' K
def YOp.wr:YOp R->Option YO|.app _ _ _ x _=>some x|.UA _ _ x _=>some x|.cpy _ _ x _=>some x|.VD x _ _=>some x|_=>none
def LY(l:AS):List PK->List En->Bool|k::ks,e::es=>(!PK.writes k||e.cs.all λl'=>!Td l' l)&&LY l ks es|_,_=>true
def St.Py(S:St):AS->Bool
 |.bp id _=>(get S.bx id).isSome|.ep _ _ _=>true|.vp _ cs=>!cs.isEmpty|.al r _=>match S.at r with|some (.ow x)=>!cQ x|_=>false
 |.vw (.own _ _) _ _=>true|.t .nil=>true|_=>false
def Wr(o:YOp R)(S:St)(l:AS):Bool:=
 S.Py l&&match o with
  |.st _ x _=>match S.one x with|some (.bp id _)=>!mem id (names l)|some (.ep r _ _)=>!isR l.CA r|_=>false
  |.call _ g _ _ args=>match S.rds args with|some es=>LY l g.ps es|none=>false
  |.Eh _ x ms args=>match S.one x,S.rds args with
   |some (.fn n caps),some es=>match R[n]? with|some g=>if g.ps.map PK.md=ms then LY l g.ps (es++caps.map λl=>⟨.one,[l.leaf]⟩) else false|none=>false
   |_,_=>false
  |o=>match o.wr with
   |some y=>match S.one y with
    |some lt=>l.CA.isNone||!(match l.CA with|some r=>isR lt.CA r|none=>lt.CA.isNone)
    |none=>false
   |none=>true
def LN(o:YOp R)(S:St):List Nat->Bool
 | []=>true|s::ss=>(match S.one (.tmp s) with|some l=>Wr o S l|none=>false)&&LN o S ss
end
abbrev ifB{e:Type}(b:Bool)(x:Option e):Option e:=match b with|true=>x|false=>none
theorem AY6{e}{b}{x:Option e}:ifB b x=if b=true then x else none:=by cases b<;>rfl
def fB{d:Type}(k:Nat):List (Nat×d)->Bool
 | []=>false|(j,_)::r=>match Nat.beq j k with|true=>true|false=>fB k r
def nU{d:Type}:List (Nat×d)->Bool| []=>true|(k,_)::r=>(!fB k r)&&nU r
def ALo:List (Option Nat)->List (Option Nat)->Bool| [],[]=>true|none::r,none::r'=>ALo r r'|some a::r,some b::r'=>Nat.beq a b&&ALo r r'|_,_=>false
def AYz:Sh->Sh->Bool|.one,.one=>true|.agg,.agg=>true|.tup a,.tup b=>ALo a b|.ptr a,.ptr b=>Nat.beq a b|.vw a,.vw b=>Nat.beq a b|_,_=>false
def AJ9:Option (Nat×Nat)->Option (Nat×Nat)->Bool|none,none=>true|some (a,b),some (a',b')=>Nat.beq a a'&&Nat.beq b b'|_,_=>false
def AJ8:Src->Src->Bool|.old a,.old b=>Nat.beq a b|.own r s,.own r' s'=>CN.is r r'&&AJ9 s s'|_,_=>false
def AWg:List (Nat×Nat)->List (Nat×Nat)->Bool| [],[]=>true|(a,b)::r,(a',b')::r'=>Nat.beq a a'&&Nat.beq b b'&&AWg r r'|_,_=>false
section
variable{F:Type}
def agU:U->U->Option F->Option F|.top,.top,X=>X|.int k n,.int k' n',X=>if k'=k then eqv n n' X else none|.u8 a,.u8 b,X=>eqv a b X|.bool a,.bool b,X=>eqv a b X|.str a,.str b,X=>eqv a b X|.nil,.nil,X=>X|.np,.np,X=>X|.mp a,.mp b,X=>eqv a b X|.sl c xs,.sl c' ys,X=>if h:c'=c then eqv xs (h▸ys) X else none|_,_,_=>none
def AYX:List U->List U->Option F->Option F| [],[],X=>X|a::r,b::r',X=>agU a b (AYX r r' X)|_,_,_=>none
def AYV:AS->AS->Option F->Option F|.t x,.t y,X=>agU x y X|.und,.und,X=>X|.ow x,.ow y,X=>agU x y X|.owh c xs hs,.owh c' ys hs',X=>ifB (AWg hs hs') (if h:c'=c then eqv xs (h▸ys) X else none)|.al r s,.al r' s',X=>ifB (CN.is r r'&&AJ9 s s') X|.ep r i j,.ep r' i' j',X=>ifB (CN.is r r'&&Nat.beq j j') (eqv i i' X)|.vw s c xs,.vw s' c' ys,X=>ifB (AJ8 s s') (if h:c'=c then eqv xs (h▸ys) X else none)|.vp s cs,.vp s' cs',X=>ifB (AJ8 s s') (AYX cs cs' X)|.bp a o,.bp a' o',X=>ifB (Nat.beq a a'&&Nat.beq o o') X|_,_,_=>none
def AV2:List AS->List AS->Option F->Option F| [],[],X=>X|a::r,b::r',X=>AYV a b (AV2 r r' X)|_,_,_=>none
def agE(v:Nat):List (Nat×Ent)->List (Nat×Ent)->Option F->Option F
 | [],[],X=>X|(k,e)::r,(k',e')::r',X=>match Nat.beq k k' with
  |true=>match (Nat.blt e.ver v&&Nat.blt e'.ver v) with|true=>agE v r r' X|false=>ifB (AYz e.sh e'.sh) (AV2 e.cs e'.cs (agE v r r' X))
  |false=>none
 |_,_,_=>none
def agB(v:Nat):List (Nat×Bx)->List (Nat×Bx)->Option F->Option F
 | [],[],X=>X|(k,e)::r,(k',e')::r',X=>match Nat.beq k k' with
  |true=>match (Nat.blt e.ver v&&Nat.blt e'.ver v) with|true=>agB v r r' X|false=>AV2 e.cs e'.cs (agB v r r' X)
  |false=>none
 |_,_,_=>none
def agS(v:Nat)(A B:St)(X:Option F):Option F:=ifB (nU A.tm&&nU B.tm&&nU A.bx&&nU B.bx) (agE v A.tm B.tm (agB v A.bx B.bx X))
end
inductive B4 where
 |nil|op(i:Nat)(g:Option (Nat×Bool))(sf:List Nat)(o:YOp R)(rest:B4)|dr(ds:List Nat)(rest:B4)|nl(ns:List (CN×C))(rest:B4)|both(n:Nat)(a b:B4)
section
variable {R} {F:Type}
def evr:B4 R->St->(St->Option F)->Option F
 |.nil,S,K=>K S|.op _ g sf p rest,S,K=>match g with
  |none=>ifB (LN p S sf) (ev p S λS'=>S'.G5 λS'=>evr rest S' K)|some (s,w)=>match get S.tm s with
   |some ⟨.one,[.t (.bool b)],_⟩=>
    br b (nh w p (S.lit s true) (ifB (LN p (S.lit s true) sf) (ev p (S.lit s true) λS'=>S'.G5 λS'=>evr rest S' K)) λS'=>S'.G5 λS'=>evr rest S' K)
     (nh (!w) p (S.lit s false) (ifB (LN p (S.lit s false) sf) (ev p (S.lit s false) λS'=>S'.G5 λS'=>evr rest S' K)) λS'=>S'.G5 λS'=>evr rest S' K)
   |some ⟨.one,[.und],_⟩=>OC p S λS'=>S'.G5 λS'=>evr rest S' K|_=>none
 |.dr ds rest,S,K=>evr rest (S.JT ds) K|.nl ns rest,S,K=>evr rest (S.TR ns) K|.both n a b,S,K=>match n with|0=>evr a S λA=>evr b S λB=>agS S.nv A B (K A)|_+1=>evr a S λA=>alt (λX=>evr b S λB=>agS S.nv A B X) (K A)
end
inductive AL where
 |val(c:C)(s:Option Src)|num(k:IntKind)|al(r:CN)
def AL.D:AL->Type|.val c _=>c.D|.num _=>Int|.al _=>Unit
def AL.w:AL->Nat|.val c _=>c.size|.num _=>1|.al _=>1
def TA:List AL->Type| []=>Unit| [a]=>a.D|a::a'::as=>a.D×TA (a'::as)
def ATD(s:Option Src)(x:U):AS:=match s with|none=>I0 x|some q=>MR q x
def AL.leaf:(a:AL)->a.D->List AS|.val c s,x=>(cells c x).map (ATD s)|.num k,z=>[.t (.int k z)]|.al r,_=>[.al r none]
def ATE(s:Option Src):AS->Option U
 |.t (.sl _ _)=>none|.t .nil=>none|.t (.mp _)=>none|.t x=>some x|.ow (.sl c xs)=>match s with|none=>some (.sl c xs)|some _=>none
 |.ow (.mp ks)=>match s with|none=>some (.mp ks)|some _=>none
 |.vw q' c xs=>match s with|none=>none|some q=>if q'=q then some (.sl c xs) else none
 |_=>none
def yb(s:Option Src):List AS->Option (List U)
 | []=>some []|l::ls=>match ATE s l,yb s ls with|some x,some xs=>some (x::xs)|_,_=>none
def AL.un:(a:AL)->List AS->Option a.D
 |.val c s,ls=>match yb s ls with|some us=>ofC c us|none=>none
 |.num k,ls=>match ls with | [.t (.int k' z)]=>if k'=k then some z else none|_=>none
 |.al r,ls=>match ls with | [.al r' none]=>if r'=r then some () else none|_=>none
def P6:(as:List AL)->TA as->List AS| [],_=>[]| [a],x=>a.leaf x|a::a'::as,x=>a.leaf x.1++P6 (a'::as) x.2
def AXk:(as:List AL)->List AS->Option (TA as)
 | [],ls=>match ls with | []=>some ()|_=>none
 | [a],ls=>a.un ls|a::a'::as,ls=>match a.un (ls.take a.w),AXk (a'::as) (ls.drop a.w) with|some x,some y=>some (x,y)|_,_=>none
abbrev Cut:=List (Bool×Nat×Sh×List AL)
def wid:List AL->Nat| []=>0|a::as=>a.w+wid as
def Cut.as(c:Cut):List AL:=(c.map λv=>v.2.2.2).flatten
def seg:Cut->List AS->List (Bool×Nat×Sh×List AS)| [],_=>[]|(b,d,sh,as)::vs,ls=>(b,d,sh,ls.take (wid as))::seg vs (ls.drop (wid as))
def look(b:Bool)(k:Nat):List (Bool×Nat×Sh×List AS)->Option (Sh×List AS)
 | []=>none|(b',d,sh,ls)::r=>match (b'==b&&Nat.beq d k) with|true=>some (sh,ls)|false=>look b k r
def oE(q:List (Bool×Nat×Sh×List AS))(a:List (Nat×Ent))(v:Nat):List (Nat×Ent)->List (Nat×Ent)
 | []=>[]|(k,e)::r=>(k,match look false k q with|some (sh,ls)=>⟨sh,ls,v⟩|none=>match get a k with|some e'=>e'|none=>e)::oE q a v r
def oD(q:List (Bool×Nat×Sh×List AS))(a:List (Nat×Bx))(v:Nat):List (Nat×Bx)->List (Nat×Bx)
 | []=>[]|(k,e)::r=>(k,match look true k q with|some (_,ls)=>⟨ls,v⟩|none=>match get a k with|some e'=>e'|none=>e)::oD q a v r
def Cut.st(c:Cut)(S S':St)(x:TA c.as):St:=⟨oE (seg c (P6 c.as x)) S.tm S.nv S'.tm,oD (seg c (P6 c.as x)) S.bx S.nv S'.bx,S.pin,S.nv+1⟩
def QS(b:Bool)(k:Nat):Cut->Bool
 | []=>false|(b',d,_)::r=>match (b'==b&&Nat.beq d k) with|true=>true|false=>QS b k r
def AK1(c:Cut)(a:List (Nat×Ent)):List (Nat×Ent)->Bool
 | []=>true|(k,e)::r=>(match QS false k c with|true=>true|false=>match get a k with|some e'=>Nat.beq e.ver e'.ver|none=>false)&&(!fB k r)&&AK1 c a r
def AK0(c:Cut)(a:List (Nat×Bx)):List (Nat×Bx)->Bool
 | []=>true|(k,e)::r=>(match QS true k c with|true=>true|false=>match get a k with|some e'=>Nat.beq e.ver e'.ver|none=>false)&&(!fB k r)&&AK0 c a r
def OB{d:Type}:List (Nat×d)->List (Nat×d)->Bool| [],[]=>true|(k,_)::r,(k',_)::r'=>Nat.beq k k'&&OB r r'|_,_=>false
def TE(S:St):Cut->Option (List AS)
 | []=>some []|(false,d,sh,as)::vs=>match get S.tm d,TE S vs with|some e,some ls=>if ANn e.sh sh=true/\e.cs.length=wid as then some (e.cs++ls) else none|_,_=>none
 |(true,d,_,as)::vs=>match get S.bx d,TE S vs with|some e,some ls=>if e.cs.length=wid as then some (e.cs++ls) else none|_,_=>none
def wfE(v:Nat):List (Nat×Ent)->Bool| []=>true|(_,e)::r=>Nat.blt e.ver v&&wfE v r
def wfB(v:Nat):List (Nat×Bx)->Bool| []=>true|(_,e)::r=>Nat.blt e.ver v&&wfB v r
def Cut.fit(c:Cut)(S S':St):Option (TA c.as):=
 if wfE S.nv S.tm=true/\wfB S.nv S.bx=true/\AK1 c S.tm S'.tm=true/\AK0 c S.bx S'.bx=true
 then match TE S' c with|some ls=>AXk c.as ls|none=>none
 else none
inductive Hp where
 |skip|region(ops:List (Option (Nat×Bool)×YOp R))(FZ:List Nat)|W9(r:B4 R)(FZ:List Nat)|seq(a b:Hp)|join(c:Cut)(a b:Hp)|cond(c:Nat)(kt ke:List Nat)(t e:Hp)|block(id:Nat)(b:Hp)|loop(c:Cut)(b:Hp)|exit(id:Nat)|ret|scope(b:Hp)|or(a b:Hp)|dead|ATl(c:Cut)(b:Hp)|VM(a b:List (Option (Nat×Bool)×YOp R))(FZ:List Nat)(d p c e:Nat)
end
section
variable{R:List GF}{F:Type}
def AVK{e:Type}:List (Nat×Ent)->(List (Nat×Ent)->e)->e| [],K=>K []|(k,_)::r,K=>AVK r λr=>K ((k,⟨.one,[],0⟩)::r)
def AVJ{e:Type}:List (Nat×Bx)->(List (Nat×Bx)->e)->e| [],K=>K []|(k,_)::r,K=>AVJ r λr=>K ((k,⟨[],0⟩)::r)
def St.see(S:St)(d p c e:Nat)(K:St->Option F):Option F:=match S.one (.tmp p),S.at (.tmp d 0) with
 |some (.bp b 0),some (.ow (.sl q xs))=>match S.at (.cell b c),Nat.beq q.size e with
  |some (.t .top),true=>bd xs.getLast? λx=>match (cells q x)[c]? with|some (.sl q' ys)=>K (S.Bk (.cell b c) (.vw (.own (.tmp d 0) none) q' ys))|_=>none
  |_,_=>none
 |_,_=>none
def I1:Hp R->St->(Ex->St->Option F)->Option F
 |.skip,S,K=>K .n S|.region ops FZ,S,K=>evs ops S λS'=>(S'.iQ FZ).G5 λS'=>K .n S'|.W9 r FZ,S,K=>evr r S λS'=>(S'.iQ FZ).G5 λS'=>K .n S'|.seq a b,S,K=>I1 a S λe S'=>match e with|Ex.n=>I1 b S' K|.x i=>K (.x i) S'|.r=>K .r S'
 |.join c a b,S,K=>I1 a S λe S'=>match e with
  |.n=>match c.fit S S' with|some x=>AVK S'.tm λtm=>AVJ S'.bx λbx=>jn (λx=>(c.st S ⟨tm,bx,[],0⟩ x).G5 λS=>I1 b S K) x|none=>none
  |.x i=>K (.x i) S'|.r=>K .r S'
 |.cond c kt ke t e,S,K=>match S.sc (.tmp c) with|some (.bool b)=>br b ((S.iQ kt).G5 λS=>I1 t S K) ((S.iQ ke).G5 λS=>I1 e S K)|_=>none
 |.block id b,S,K=>I1 b S λe S'=>match e with|.n=>K .n S'|.x i=>if i=id then K .n S' else K (.x i) S'|.r=>K .r S'
 |.loop c b,S,K=>match c.fit S S with
  |some x=>BK (λL x=>(c.st S S x).G5 λS1=>I1 b S1 λe S'=>match e with
   |.n=>if OB S.tm S'.tm=true/\OB S.bx S'.bx=true then (match c.fit S S' with|some y=>L y|none=>none) else none
   |.x i=>K (.x i) S'|.r=>K .r S') big x
  |none=>none
 |.exit id,S,K=>K (.x id) S|.ret,S,K=>K .r S|.scope b,S,K=>I1 b S K|.or a b,S,K=>orX (I1 a S K) (I1 b S K)|.dead,_,_=>none|.ATl c b,S,K=>I1 b S λe S0=>match e with
  |.n=>match c.fit S0 S0 with
   |some x=>BK (λL x=>(c.st S0 S0 x).G5 λS1=>I1 b S1 λe S'=>match e with
    |.n=>if OB S0.tm S'.tm=true/\OB S0.bx S'.bx=true then (match c.fit S0 S' with|some y=>L y|none=>none) else none
    |.x i=>K (.x i) S'|.r=>K .r S') big x
   |none=>none
  |.x i=>K (.x i) S0|.r=>K .r S0
 |.VM a b FZ d p c e,S,K=>evs a S λS=>match S.one (.tmp p) with
  |some (.bp id 0)=>match get S.bx id with|some _=>evs b S λS'=>S'.see d p c e λS'=>(S'.iQ FZ).G5 λS'=>K .n S'|none=>none
  |_=>none
def Q8(i:Nat):(l:List (Bool×C))->uV l->List Cap
 | [],_=>[]|(false,c)::r,x=>(match cells c x.1 with | [.sl c' xs]=>.vw i c' xs | [u]=>.t u|_=>.t .top)::Q8 i r x.2
 |(true,c)::r,x=>.vp i (cells c x.1)::Q8 i r x.2
def initK:Nat->List Nat->(ks:List PK)->A ks->St->St
 |_,_,[],_,S=>S|i,fs,.v c::ks,a,S=>initK (i+1) fs ks a.2 (S.Lg i (shC c) ((cells c a.1).map (Ew i)))|i,fs,.p c::ks,a,S=>initK (i+1) fs ks a.2 (S.Lg i .one [.vp (.old i) (cells c a.1)])|i,fs,.b c::ks,a,S=>initK (i+1) fs ks a.2 (let S1:=(S.Lg i .one [.bp i 0]).QW i ((cells c a.1).map (Ew i));⟨S1.tm,S1.bx,i::S1.pin,S1.nv⟩)
 |i,fs,.o c::ks,a,S=>initK (i+1) fs ks a.2 (S.Lg i (shC c) ((cells c a.1).map I0))|i,fs,.m c::ks,a,S=>initK (i+1) fs ks a.2 (let S1:=S.Lg i (shC c) ((cells c a.1).map I0);⟨S1.tm,S1.bx,i::S1.pin,S1.nv⟩)
 |i,fs,.f _ l::ks,a,S=>initK (i+1) fs.tail ks a.2 (S.Lg i .one [.fn (fs.headD 0) (Q8 i l a.1)])
def Mo{F:Type}:List IF->St->(List (Option Nat)->List AS->Option F)->Option F
 | [],_,K=>K [] []|.tmp t::rs,S,K=>match S.rd (.tmp t) with
  |some e=>if Hz e.sh e.cs.length=true then Mo rs S λns ls=>K ((match e.sh with|.one=>none|_=>some e.cs.length)::ns) (e.cs++ls) else none
  |none=>none
 |.cell t n::rs,S,K=>match S.one (.tmp t) with|some (.bp id o)=>S.load (Dx n) (.bp id o) λls'=>Mo rs S λns ls=>K (n::ns) (ls'++ls)|_=>none
 |.bx _::_,_,_=>none|.vw _ _::_,_,_=>none|.un _ _::_,_,_=>none
def P9:List AS->Bool
 | []=>true|l::ls=>(match l with|.t x=>!T1 x|.vw (.old _) _ _=>true|_=>false)&&P9 ls
def dN(rk:RK)(rs:List IF)(S:St)(K:St->List U->Option F):Option F:=
 match rk,rs with
 |.ptr k _,[.bx t]=>match S.one (.tmp t) with
  |some (.bp id 0)=>match get S.bx id with
   |some ls=>if mem id S.pin=true then none else if Df ls.cs=k then match F6 k ls.cs with|some us=>K S us|none=>none else none
   |none=>none
  |_=>none
 |.T8 k _ c,[.bx t,r]=>match S.one (.tmp t) with
  |some (.bp id 0)=>match get S.bx id with
   |some ls=>if mem id S.pin=true then none else if Df ls.cs=k then match F6 k ls.cs with
    |some us=>Mo [r] S λns ls'=>if ns=[some c.size] then match D5 S ls' with
     |some (S',us')=>K S' (us++us')|none=>none
     else none
    |none=>none
    else none
   |none=>none
  |_=>none
 |.vw k _,[.vw t k']=>if k'=k then match S.one (.tmp t) with
  |some (.vw (.old k'') c xs)=>if k''=k then K S [.sl c xs] else none|some (.al r sub)=>match S.at r with|some (.ow x)=>K (S.out r) [AHY sub x]|_=>none
  |_=>none
  else none
 |.ret (.un n::c::cs),.un t n'::r::rs=>if n'=n then match S.one (.tmp t) with
  |some (.bp id o)=>S.load n (.bp id o) λls'=>if P9 ls'=true then Mo (r::rs) S λns ls=>if ns=(c::cs).map wC then match D5 S ls with
   |some (S',us)=>K S' (List.replicate n .un++us)|none=>none
   else none
   else none
  |_=>none
  else none
 |.ret cs,rs=>Mo rs S λns ls=>if ns=cs.map wC then match D5 S ls with
  |some (S',us)=>K S' us|none=>none
  else none
 |_,_=>none
def owT:AS->Option U|.ow x=>some x|.t x=>if T1 x=true then none else some x|_=>none
def fh:List AS->Option (List U)
 | []=>some []|l::ls=>match owT l,fh ls with|some x,some xs=>some (x::xs)|_,_=>none
def F8:Nat->List PK->St->Option (List U)
 |_,[],_=>some []|i,.b c::ks,S=>match get S.bx i,F8 (i+1) ks S with
  |some ls,some os=>if mem i S.pin=true/\ls.cs.length=c.size then match F6 i ls.cs with|some us=>some (us++os)|none=>none else none
  |_,_=>none
 |i,.m c::ks,S=>match get S.tm i,F8 (i+1) ks S with
  |some e,some os=>if mem i S.pin=true/\Hz e.sh e.cs.length=true/\e.cs.length=c.size then match fh e.cs with|some us=>some (us++os)|none=>none else none
  |_,_=>none
 |i,_::ks,S=>F8 (i+1) ks S
def Ws:List C->Nat| []=>0|c::cs=>c.size+Ws cs
def fin(ks:List PK)(rk:RK)(rs:List IF)(S:St):Option (Tu (rk.cs++NR ks)):=
 dN rk rs S λS' us=>match F8 0 ks S' with|some os=>if us.length=Ws rk.cs then ofT (rk.cs++NR ks) (us++os) else none|none=>none
end
structure YF where
 R:List GF
 ps:List PK
 fs:List Nat
 rk:RK
 rs:List IF
 body:Hp R
def YF.run(f:YF)(a:A f.ps):Option (Tu (f.rk.cs++NR f.ps)):=
 (initK 0 f.fs f.ps a ⟨[],[],[],0⟩).G5 λS=>I1 f.body S λe S=>match e with|.x _=>none|.n=>fin f.ps f.rk f.rs S|.r=>fin f.ps f.rk f.rs S
end Y
theorem Fw:∀(c:C) (x:c.D),enc c x=(cells c x).map U.fg
 |.i,x=>rfl|.u,x=>rfl|.b,x=>rfl|.s,x=>rfl|.m,x=>rfl|.ki _,x=>rfl|.z,x=>rfl|.l c,xs=>rfl|.un n,x=>by simp only[enc,cells,GB];rfl|.st n,x=>by
  match n,x with
  |0,x=>rfl|1,x=>rfl|2,x=>rfl|3,x=>rfl|4,x=>rfl|5,x=>rfl|6,x=>rfl|7,x=>rfl|8,x=>rfl|9,x=>rfl|10,x=>rfl|11,x=>rfl|12,x=>rfl|13,x=>rfl|14,x=>rfl|15,x=>rfl|16,x=>rfl|17,x=>rfl|_+18,x=>rfl
theorem AVj{u}{n}(h:toI u=some n):u=.int .i64 n:=by cases u<;>simp[toI]at h;grind
theorem AZx{u}{n}(h:toU u=some n):u=.u8 n:=by cases u<;>simp[toU]at h;rw[h]
theorem AK9{u}{n}(h:AXi u=some n):u=.bool n:=by cases u<;>simp[AXi]at h;rw[h]
theorem AVl{u}{n}(h:toS u=some n):u=.str n:=by cases u<;>simp[toS]at h;rw[h]
theorem AZw{k}{u}{n}(h:toN k u=some n):u=.int k n:=by cases u<;>simp[toN]at h;grind
theorem AZy{u}{n}(h:toZ u=some n):u=.nil:=by cases u<;>simp[toZ]at h;rfl
theorem AZv{u:U}{n}(h:toM u=some n):u=.mp n:=by cases u<;>simp[toM]at h;rw[h]
theorem AVk{c}{u}{n}(h:toL c u=some n):u=.sl c n:=by cases u<;>simp[toL]at h;grind
theorem bind_eq{β:Type}{f}{r:β}(h:o.bind f=some r):∃x,o=some x/\f x=some r:=ob h
theorem EU{d}{us}{K:Int->List U->Option d}{r}(h:gI us K=some r):∃a j,us=.int .i64 a::j/\K a j=some r:=by
 cases us with
 |nil=>cases h
 |cons u us=>obtain⟨a,q,h⟩:=bind_eq h;obtain rfl:=AVj q;exact⟨a,us,rfl,h⟩
theorem eP{d}{us}{K:List UInt8->List U->Option d}{r}(h:gS us K=some r):∃a j,us=.str a::j/\K a j=some r:=by
 cases us with
 |nil=>cases h
 |cons u us=>obtain⟨a,q,h⟩:=bind_eq h;obtain rfl:=AVl q;exact⟨a,us,rfl,h⟩
theorem AY3{d}{us}{K:Bool->List U->Option d}{r}(h:gBo us K=some r):∃a j,us=.bool a::j/\K a j=some r:=by
 cases us with
 |nil=>cases h
 |cons u us=>obtain⟨a,q,h⟩:=bind_eq h;obtain rfl:=AK9 q;exact⟨a,us,rfl,h⟩
theorem LJ{d}{c}{us}{K:List c.D->List U->Option d}{r}(h:gL c us K=some r):∃a j,us=.sl c a::j/\K a j=some r:=by
 cases us with
 |nil=>cases h
 |cons u us=>obtain⟨a,y,q⟩:=bind_eq h;obtain rfl:=AVk y;exact⟨a,us,rfl,q⟩
theorem M4{d}{us}{a r:d}(h:gE us a=some r):us=[]/\a=r:=by
 cases us with
 |nil=>exact⟨rfl,Option.some.inj h⟩|cons u us=>cases h
theorem ATV{us}{x}(h:ATU us=some x):AXv x=us:=by grind[ATU,EU,M4]
theorem AGw{us}{x}(h:yu us=some x):AH4 x=us:=by unfold yu at h;obtain⟨a0,B,rfl,j⟩:=LJ h;obtain⟨q,E,rfl,y⟩:=EU j;grind[EU,M4]
theorem AGu{us}{x}(h:yr us=some x):AH2 x=us:=by unfold yr at h;obtain⟨a0,G,rfl,j⟩:=EU h;obtain⟨y,H,rfl,q⟩:=EU j;obtain⟨B,I,rfl,E⟩:=EU q;grind[EU,M4]
theorem ADg{us}{x}(h:nY us=some x):AAm x=us:=by grind[nY,EU,M4]
theorem AGr{us}{x}(h:yo us=some x):AHz x=us:=by grind[yo,EU,M4]
theorem ATT{us}{x}(h:ATS us=some x):AXu x=us:=by grind[ATS,EU,M4]
theorem AGy{us}{x}(h:yw us=some x):AH6 x=us:=by grind[yw,LJ,M4]
theorem AGq{us}{x}(h:yn us=some x):AHy x=us:=by unfold yn at h;grind[EU,LJ,M4]
theorem AGt{us}{x}(h:yq us=some x):AH1 x=us:=by unfold yq at h;obtain⟨a0,Y,rfl,j⟩:=LJ h;obtain⟨I,Z,rfl,q⟩:=EU j;obtain⟨J,u2,rfl,y⟩:=EU q;obtain⟨a3,u3,rfl,B⟩:=EU y;obtain⟨a4,u4,rfl,E⟩:=EU B;obtain⟨L,u5,rfl,G⟩:=EU E;obtain⟨O,u6,rfl,H⟩:=EU G;obtain⟨Q,u7,rfl,X⟩:=EU H;grind[EU,LJ,M4]
theorem AMB{us}{x}(h:AGp us=some x):AOb x=us:=by grind[AGp,eP,EU,M4]
theorem AGx{us}{x}(h:yv us=some x):AH5 x=us:=by grind[yv,eP,EU,M4]
theorem ADf{us}{x}(h:nX us=some x):AAl x=us:=by unfold nX at h;obtain⟨a0,u0,rfl,Q⟩:=LJ h;obtain⟨a1,u1,rfl,X⟩:=EU Q;obtain⟨a2,u2,rfl,Z⟩:=EU X;obtain⟨a3,u3,rfl,h3⟩:=EU Z;obtain⟨a4,u4,rfl,h4⟩:=EU h3;obtain⟨a5,u5,rfl,h5⟩:=EU h4;obtain⟨a6,u6,rfl,h6⟩:=EU h5;obtain⟨a7,u7,rfl,h7⟩:=EU h6;obtain⟨a8,u8,rfl,h8⟩:=EU h7;obtain⟨a9,u9,rfl,h9⟩:=EU h8;obtain⟨G,u10,rfl,j⟩:=EU h9;obtain⟨H,u11,rfl,q⟩:=LJ j;obtain⟨I,u12,rfl,y⟩:=LJ q;obtain⟨J,u13,rfl,B⟩:=LJ y;obtain⟨L,u14,rfl,E⟩:=LJ B;obtain⟨O,u15,rfl,Y⟩:=eP E;grind[EU,eP,LJ,M4]
theorem AGv{us}{x}(h:yt us=some x):AH3 x=us:=by grind[yt,EU,LJ,M4]
theorem AGz{us}{x}(h:yx us=some x):AH7 x=us:=by unfold yx at h;obtain⟨a0,u0,rfl,h0⟩:=LJ h;obtain⟨a1,u1,rfl,h1⟩:=EU h0;obtain⟨a2,u2,rfl,h2⟩:=EU h1;obtain⟨a3,u3,rfl,h3⟩:=EU h2;obtain⟨a4,u4,rfl,h4⟩:=EU h3;obtain⟨a5,u5,rfl,h5⟩:=EU h4;obtain⟨a6,u6,rfl,h6⟩:=EU h5;obtain⟨a7,u7,rfl,h7⟩:=EU h6;obtain⟨a8,u8,rfl,h8⟩:=EU h7;obtain⟨a9,u9,rfl,h9⟩:=EU h8;obtain⟨L,u10,rfl,j⟩:=EU h9;obtain⟨O,u11,rfl,q⟩:=LJ j;obtain⟨Q,u12,rfl,y⟩:=LJ q;obtain⟨X,u13,rfl,B⟩:=LJ y;obtain⟨Y,u14,rfl,E⟩:=LJ B;obtain⟨Z,u15,rfl,G⟩:=eP E;obtain⟨a16,u16,rfl,H⟩:=EU G;obtain⟨a17,u17,rfl,I⟩:=eP H;obtain⟨a18,u18,rfl,J⟩:=EU I;obtain⟨a19,u19,rfl,h19⟩:=eP J;grind[EU,LJ,M4]
theorem ATR{us}{x}(h:ATQ us=some x):AXt x=us:=by unfold ATQ at h;obtain⟨a0,B,rfl,j⟩:=EU h;obtain⟨q,E,rfl,y⟩:=EU j;grind[EU,LJ,M4]
theorem AGs{us}{x}(h:yp us=some x):AH0 x=us:=by grind[yp,EU,eP,M4]
theorem AG0{us}{x}(h:yy us=some x):AH8 x=us:=by grind[yy,LJ,EU,AY3,M4]
theorem AG1{us}{x}(h:yz us=some x):AH9 x=us:=by grind[yz,LJ,EU,M4]
theorem AMC:∀{n:Nat} {us:List U} {x:tD n},ofS n us=some x->AE5 n x=us
 |0,us,x,h=>ATV h|1,us,x,h=>AGw h|2,us,x,h=>AGu h|3,us,x,h=>ADg h|4,us,x,h=>AGr h|5,us,x,h=>ATT h|6,us,x,h=>AGy h|7,us,x,h=>AGq h|8,us,x,h=>AGt h|9,us,x,h=>AMB h|10,us,x,h=>AGx h|11,us,x,h=>ADf h|12,us,x,h=>AGv h|13,us,x,h=>AGz h|14,us,x,h=>ATR h|15,us,x,h=>AGs h|16,us,x,h=>AG0 h|17,us,x,h=>AG1 h|_+18,us,x,h=>by cases h
theorem VH{d}{us}{f:U->Option d}{r}(h:of1 us f=some r):∃u,us=[u]/\f u=some r:=by
 match us,h with
 | [u],h=>exact⟨u,rfl,h⟩
theorem AEn:∀{n:Nat} {us:List U} {x:Unit},Oo n us=some x->us=List.replicate n .un|0,[],_,_=>rfl|n+1,.un::us,x,h=>by rw[J2,<-AEn (n:=n) (x:=x) (by simpa only[Oo] using h)]|0,_::_,_,h=>by simp[Oo]at h|n+1,[],_,h=>by simp[Oo]at h|n+1,.int _ _::_,_,h=>by simp[Oo]at h|n+1,.top::_,_,h=>by simp[Oo]at h|n+1,.u8 _::_,_,h=>by simp[Oo]at h|n+1,.bool _::_,_,h=>by simp[Oo]at h|n+1,.str _::_,_,h=>by simp[Oo]at h|n+1,.nil::_,_,h=>by simp[Oo]at h|n+1,.np::_,_,h=>by simp[Oo]at h|n+1,.sl _ _::_,_,h=>by simp[Oo]at h|n+1,.mp _::_,_,h=>by simp[Oo]at h
theorem dB:∀{c:C} {us:List U} {x:c.D},ofC c us=some x->cells c x=us
 |.i,us,x,h=>by obtain⟨u,rfl,h⟩:=VH h;obtain rfl:=AVj h;rfl
 |.u,us,x,h=>by obtain⟨u,rfl,h⟩:=VH h;obtain rfl:=AZx h;rfl
 |.b,us,x,h=>by obtain⟨u,rfl,h⟩:=VH h;obtain rfl:=AK9 h;rfl
 |.s,us,x,h=>by obtain⟨u,rfl,h⟩:=VH h;obtain rfl:=AVl h;rfl
 |.ki k,us,x,h=>by obtain⟨u,rfl,h⟩:=VH h;obtain rfl:=AZw h;rfl
 |.m,us,x,h=>by obtain⟨u,rfl,h⟩:=VH h;obtain rfl:=AZv h;rfl
 |.z,us,x,h=>by obtain⟨u,rfl,h⟩:=VH h;obtain rfl:=AZy h;rfl
 |.l c,us,x,h=>by obtain⟨u,rfl,h⟩:=VH h;obtain rfl:=AVk h;rfl
 |.st n,us,x,h=>AMC h|.un n,us,x,h=>(AEn (show Oo n us=some x from h)).symm
theorem Jj{c}{us}{x}(h:ofC c us=some x):enc c x=us.map U.fg:=by rw[Fw,dB h]
theorem bC:∀(c:C) (x:c.D),(cells c x).length=c.size
 |.i,x=>rfl|.u,x=>rfl|.b,x=>rfl|.s,x=>rfl|.m,x=>rfl|.ki _,x=>rfl|.z,x=>rfl|.l c,xs=>rfl|.un n,x=>List.length_replicate|.st n,x=>by
  match n,x with
  |0,x=>rfl|1,x=>rfl|2,x=>rfl|3,x=>rfl|4,x=>rfl|5,x=>rfl|6,x=>rfl|7,x=>rfl|8,x=>rfl|9,x=>rfl|10,x=>rfl|11,x=>rfl|12,x=>rfl|13,x=>rfl|14,x=>rfl|15,x=>rfl|16,x=>rfl|17,x=>rfl|_+18,x=>rfl
theorem Qj c  x :(enc c x).length=c.size:=by rw[Fw,Af,bC]
theorem AW2{c}{us}{x}(h:ofC c us=some x):us.length=c.size:=by rw[<-dB h,bC]
def Cap.fg:Cap->AS|.t x=>.t x.fg|.vw k c xs=>.vw (.old k) c.size (xs.map (enc c))|.vp k cs=>.vp (.old k) (cs.map U.fg)|.bp id off=>.bp id off
namespace Y
section
variable(R:List GF)
def xr(n:Nat):CQ:=match R[n]? with|some g=>g.x|none=>.OW 0 []
def Om(rows:List (List T)):List (Nat×Nat)->List (List T)| []=>rows|(i,j)::hs=>Om (KN rows i j .top) hs
def AS.fg:AS->Lv.AS|.t x=>.t x.fg|.und=>.und|.ow x=>.ow x.fg|.owh c xs hs=>.ow (.sl c.size (Om (xs.map (enc c)) hs))|.al r sub=>.al r sub|.ep r i j=>.ep r i.toNat j|.vw s c xs=>.vw s c.size (xs.map (enc c))|.vp s cs=>.vp s (cs.map U.fg)|.bp id off=>.bp id off|.fn n caps=>.fn (xr R n) (caps.map Cap.fg)
def Ent.fg(e:Ent):Lv.Ent:=⟨e.sh,e.cs.map (AS.fg R)⟩
def En.fg(e:En):Lv.Ent:=⟨e.sh,e.cs.map (AS.fg R)⟩
def fgE(l:List (Nat×Ent)):List (Nat×Lv.Ent):=l.map λp=>(p.1,p.2.fg R)
def fgB(l:List (Nat×Bx)):List (Nat×List Lv.AS):=l.map λp=>(p.1,p.2.cs.map (AS.fg R))
def St.fg(S:St):Lv.St:=⟨fgE R S.tm,fgB R S.bx,S.pin⟩
theorem mem_iff{k}{ks}:mem k ks=true↔k∈ks:=by
 induction ks with
 |nil=>simp[mem]|cons x xs j=>simp[mem,Ae];by_cases h:k=x;subst h;simp;grind[Nat.beq,Nat.eq_of_beq_eq_true]
theorem PR{k}{ks}:mem k ks=false↔k∉ks:=by rw[<-mem_iff];cases mem k ks<;>simp
theorem beq_true{a b:Nat}(h:Nat.beq a b=true):a=b:=FK h
theorem beq_false{a b:Nat}(h:Nat.beq a b=false):a≠b:=Iy h
theorem get_eq{d}:∀(l:List (Nat×d)) (k:Nat),get l k=Lv.get l k
 | [],_=>rfl|(j,a)::r,k=>by
  simp[get,Lv.get];cases h:Nat.beq j k with
  |true=>rw[AY (beq_true h)]|false=>rw[Aa (beq_false h),get_eq r k]
theorem AHI{d}:∀(l:List (Nat×d)) (k:Nat) (a:d),put l k a=Lv.put l k a
 | [],_,_=>rfl|(j,b)::r,k,a=>by
  simp[put,Lv.put];cases h:Nat.beq k j with
  |true=>rw[AY (beq_true h)]|false=>
   rw[Aa (beq_false h)];have B:=beq_false h;cases q:Nat.ble k j with
   |true=>have:=JQ q;rw[AY (by omega)]
   |false=>have:¬k<=j:=λy=>by rw[Nat.ble_eq_true_of_le y]at q;cases q
           rw[Aa (by omega),AHI r k a]
theorem mD{d} ks :∀(l:List (Nat×d)),LH ks l=Lv.LH ks l
 | []=>rfl|(j,b)::r=>by
  simp[LH,Lv.LH];cases h:mem j ks with
  |true=>rw[AY (mem_iff.1 h),mD ks r]|false=>rw[Aa (PR.1 h),mD ks r]
theorem cS{d} ks :∀(l:List (Nat×d)),Hi ks l=Lv.Hi ks l
 | []=>rfl|(j,b)::r=>by
  simp[Hi,Lv.Hi];cases h:mem j ks with
  |true=>rw[AY (mem_iff.1 h),cS ks r]|false=>rw[Aa (PR.1 h),cS ks r]
theorem get_map{d β}(f:d->β):∀(l:List (Nat×d)) (k:Nat),Lv.get (l.map λp=>(p.1,f p.2)) k=(Lv.get l k).map f
 | [],_=>rfl|(j,a)::r,k=>by simp[AJ,Lv.get];by_cases h:j=k;simp[h];simp[h,get_map f r k]
theorem zO{d β}(f:d->β):∀(l:List (Nat×d)) (k:Nat) (a:d),Lv.put (l.map λp=>(p.1,f p.2)) k (f a)=(Lv.put l k a).map λp=>(p.1,f p.2)
 | [],_,_=>rfl|(j,b)::r,k,a=>by simp[AJ,Lv.put];by_cases h:k=j;simp[h];by_cases q:k<j;simp[h,q];simp[h,q,zO f r k a]
theorem bV{d β}(f:d->β) ks :∀(l:List (Nat×d)),Lv.LH ks (l.map λp=>(p.1,f p.2))=(Lv.LH ks l).map λp=>(p.1,f p.2)
 | []=>rfl|(j,b)::r=>by simp[AJ,Lv.LH];by_cases h:j∈ks;simp[h,bV f ks r];simp[h,bV f ks r]
theorem TM{d β}(f:d->β) ks :∀(l:List (Nat×d)),Lv.Hi ks (l.map λp=>(p.1,f p.2))=(Lv.Hi ks l).map λp=>(p.1,f p.2)
 | []=>rfl|(j,b)::r=>by simp[AJ,Lv.Hi];by_cases h:j∈ks;simp[h,TM f ks r];simp[h,TM f ks r]
variable {R}
theorem ZV(S:St) k :Lv.get (S.fg R).tm k=(get S.tm k).map (Ent.fg R):=by rw[get_eq];exact get_map (Ent.fg R) S.tm k
theorem Pw(S:St) k :Lv.get (S.fg R).bx k=(get S.bx k).map (λb=>b.cs.map (AS.fg R)):=by rw[get_eq];exact get_map (λb:Bx=>b.cs.map (AS.fg R)) S.bx k
end
end Y
namespace Y
section
variable{R:List GF}
theorem CN.AS2 r r' :CN.is r r'=decide (r=r'):=by
 have j:∀a b:Nat,Nat.beq a b=decide (a=b):=λa b=>by grind[Nat.beq,beq_true,beq_false]
 cases r<;>cases r'<;>simp[CN.is,CN.tmp.injEq,CN.cell.injEq,reduceCtorEq,decide_false];grind;grind
theorem cP o  r :isR o r=decide (o=some r):=by
 cases o with
 |none=>simp[isR]|some q=>simp[isR,CN.AS2]
theorem Sw(a b:Nat):Nat.beq a b=decide (a=b):=by grind[Nat.beq,beq_true,beq_false]
theorem AY9 o  r :isN o r=decide (o=some r):=by
 cases o with
 |none=>simp[isN]|some q=>simp[isN,Sw]
theorem V6 k  ks :mem k ks=decide (k∈ks):=by grind[mem,mem_iff,PR]
@[simp] theorem Ma(l:AS):(AS.fg R l).CA=l.CA:=by
 cases l<;>try rfl
 rename_i s c xs;cases s<;>rfl;next s cs=>cases s<;>rfl
@[simp] theorem AOX(l:AS):(AS.fg R l).Nn=l.Nn:=by
 cases l<;>try rfl
 rename_i r sub;cases r<;>rfl;rename_i r i j;cases r<;>rfl;next s c xs=>cases s with
 |own r p=>cases r<;>rfl
 |old k=>rfl
 next s cs=>cases s with
 |own r p=>cases r<;>rfl
 |old k=>rfl
@[simp] theorem AE3(l:Cap):l.fg.Nn=l.Nn:=by cases l<;>rfl
theorem di(l:Cap):AS.fg R l.leaf=l.fg:=by cases l<;>rfl
theorem AMF r  l :Lv.NP r (AS.fg R l)=NP r l:=by simp[Lv.NP,NP,cP]
theorem TU r  l :Lv.GS r (AS.fg R l)=GS r l:=by
 cases l<;>try rfl
 next s c xs=>cases s with|own r p=>simp[AS.fg,Lv.GS,GS,CN.AS2]|old k=>rfl
 next s cs=>cases s with|own r p=>simp[AS.fg,Lv.GS,GS,CN.AS2]|old k=>rfl
theorem Zv d  l :Lv.Fb d (AS.fg R l)=Fb d l:=by grind[Lv.Fb,Fb,Ma,Sw]
theorem Zu d  l :Lv.Gb d (AS.fg R l)=Gb d l:=by
 have h:=AOX (R:=R) l;cases l<;>simp[AS.fg]at h ⊢ <;> simp[Lv.Gb,Gb,AY9]<;>first|rw[h]|skip
 simp[IV,Function.comp_def]
theorem AZX ks(o:Option Nat):(match o with|some d=>decide (d∉ks)|none=>false)=(match o with|some d=>!mem d ks|none=>false):=by grind[V6]
theorem AMD ks  l :Lv.NO ks (AS.fg R l)=NO ks l:=by
 have h:=AOX (R:=R) l;cases l with
 |fn n caps=>simp only[AS.fg,Lv.NO,NO,IV,Function.comp_def,AE3];congr 1;funext x;exact AZX ks _
 |_=>grind[AS.fg,Lv.NO,NO,AS.Nn,V6]
theorem nV ks  l :Lv.Ji ks (AS.fg R l)=Ji ks l:=by grind[Lv.Ji,Ji,Ma,AMD,V6]
theorem AKS ks  l :Lv.cL ks (AS.fg R l)=cL ks l:=by grind[Lv.cL,cL,Ma,V6]
theorem N5{q:AS->Bool}{q':Lv.AS->Bool}(j:∀l,q' (AS.fg R l)=q l):∀ls,Lv.FD q' (ls.map (AS.fg R))=(FD q ls).map (AS.fg R)
 | []=>rfl|l::ls=>by simp[AJ,Lv.FD,FD,j,N5 j ls];cases q l<;>rfl
theorem XR{q}:∀{ls:List AS},ls.any q=false->FD q ls=ls
 | [],_=>rfl|l::ls,h=>by simp only[List.any_cons,Bool.or_eq_false_iff]at h;simp[FD,h.1,BP,if_false,XR h.2]
theorem Zo{q:AS->Bool}{q':Lv.AS->Bool}(j:∀l,q' (AS.fg R l)=q l)(v:Nat):∀ls,Lv.M6 q' (fgE R ls)=fgE R (M6 v q ls)
 | []=>rfl|(k,e)::ls=>by
  have y:=Zo j v ls;simp only[fgE,AJ,Lv.M6,M6]at y ⊢;rw[y];congr 2;simp only[Ent.fg];cases h:e.cs.any q with
  |true=>simp[if_true,N5 j]|false=>rw[Aa (by simp),N5 j,XR h]
theorem Zn{q:AS->Bool}{q':Lv.AS->Bool}(j:∀l,q' (AS.fg R l)=q l)(v:Nat):∀ls,Lv.M5 q' (fgB R ls)=fgB R (M5 v q ls)
 | []=>rfl|(k,e)::ls=>by
  have y:=Zn j v ls;simp only[fgB,AJ,Lv.M5,M5]at y ⊢;rw[y];congr 2;cases h:e.cs.any q with
  |true=>simp[if_true,N5 j]|false=>rw[Aa (by simp),N5 j,XR h]
theorem MQ{q:AS->Bool}{q':Lv.AS->Bool}(j:∀l,q' (AS.fg R l)=q l)(S:St):(S.fg R).kill q'=(S.kill q).fg R:=by simp[St.fg,Lv.St.kill,St.kill,Zo j S.nv,Zn j S.nv]
theorem Nc(S:St) d  sh  cs :(S.Lg d sh cs).fg R={ S.fg R with tm:=Lv.put (S.fg R).tm d ⟨sh,cs.map (AS.fg R)⟩}:=by simp[St.fg,St.Lg,AHI,fgE];rw[<-zO (Ent.fg R)];rfl
theorem WD(S:St) d  cs :(S.QW d cs).fg R={ S.fg R with bx:=Lv.put (S.fg R).bx d (cs.map (AS.fg R))}:=by simp[St.fg,St.QW,AHI,fgB];rw[<-zO (λb:Bx=>b.cs.map (AS.fg R))]
theorem ACt(S:St) ks :(S.JT ks).fg R=(S.fg R).JT ks:=by simp only[St.fg,Lv.St.JT,St.JT,mD];rw[<-Zo (AKS ks),<-Zn (AKS ks)];simp[fgE];rw[<-bV]
theorem UD(S:St) ks :(S.clean ks).fg R=(S.fg R).clean ks:=by simp only[St.fg,Lv.St.clean,St.clean,cS];rw[<-Zo (nV ks),<-Zn (nV ks)];simp only[fgE,fgB];rw[<-TM,<-TM (λb:Bx=>b.cs.map (AS.fg R))]
theorem Kj(S:St) r :(S.fg R).at r=(S.at r).map (AS.fg R):=by
 cases r with
 |tmp s c=>grind[Lv.St.at,St.at,ZV,get,Ent.fg]
 |cell s c=>grind[Lv.St.at,St.at,Pw,get]
theorem Gv(S:St) r  l :(S.Bk r l).fg R=(S.fg R).Bk r (AS.fg R l):=by
 cases r with
 |tmp s c=>
  simp[Lv.St.Bk,St.Bk,ZV];cases h:get S.tm s with
  |none=>rfl|some e=>simp[Nc,Ent.fg]
 |cell s c=>
  simp[Lv.St.Bk,St.Bk,Pw];cases h:get S.bx s with
  |none=>rfl|some e=>simp[WD]
theorem AFH{l}:AS.fg R l=.t .nil↔l=.t .nil:=by cases l<;>simp[AS.fg];next x=>cases x<;>simp[U.fg]
theorem AZU(S:St) r  c :AS.fg R (S.nl0 r c)=(S.fg R).nl0 r c.size:=by
 cases r with
 |tmp s k=>rfl|cell id k=>simp[St.nl0,Lv.St.nl0,V6];have j:(S.fg R).pin=S.pin:=rfl;grind[AS.fg,U.fg]
def Rw.fg:Rw->List (List T)|.nl=>[]|.of c xs=>xs.map (enc c)
theorem W6{x}{w}(h:content x=some w):Lv.content x.fg=some w.fg:=by cases x<;>simp[content]at h<;>subst h<;>rfl
theorem dS{d β:Type}(f:d->β) sub(xs:List d):(o9 sub xs).map f=o9 sub (xs.map f):=by
 cases sub with
 |none=>rfl|some p=>simp[o9]
theorem AAB sub  xs :K6 sub xs=o9 sub xs:=by cases sub<;>rfl
theorem AVQ sub(w:Rw):(w.sub sub).fg=K6 sub w.fg:=by
 cases w with
 |nl=>cases sub<;>simp[Rw.sub,Rw.fg,K6]
 |of c xs=>simp[Rw.sub,Rw.fg,dS,AAB]
theorem iE{c}{w:Rw}{ys}(h:w.as c=some ys):w.fg=ys.map (enc c):=by
 cases w with
 |nl=>cases h;rfl
 |of q xs=>simp only[Rw.as]at h;split at h;rename_i j;subst j;cases h;rfl;cases h
theorem ae sub  x :(AHY sub x).fg=qD sub x.fg:=by
 cases x<;>try rfl
 simp[AHY,U.fg,qD,dS,AAB]
theorem R6{S:St}{l}{w}(h:S.elems l=some w):(S.fg R).elems (AS.fg R l)=some w.fg:=by unfold St.elems at h;split at h;grind[AS.fg,Lv.St.elems,Kj,W6,AVQ];cases h;rfl;cases h;rfl;cases h
theorem AYY s c  l :AS.fg R (l.ali s c)=(AS.fg R l).ali s c:=by cases l<;>rfl
theorem uc(s:Nat):∀(c:Nat) (ls:List AS),(T9 s c ls).map (AS.fg R)=Lv.T9 s c (ls.map (AS.fg R))|_,[]=>rfl|c,l::ls=>by simp only[T9,AJ,Lv.T9,AYY,uc s (c+1) ls]
theorem AHp b :∀(c:Nat) (ls:List AS),(Ss b c ls).map (AS.fg R)=Lv.Ss b c (ls.map (AS.fg R))
 |_,[]=>rfl|c,l::ls=>by have j:=AHp b (c+1) ls;cases l<;>simp[Ss,AJ,AS.fg,Lv.Ss,j]
theorem ATB x :AS.fg R (tE x)=Lv.tE x.fg:=by cases x<;>rfl
def YO.er(R:List GF):YO->Opd|.tmp t=>.tmp t|.k x=>.k x.fg|.fn n=>.fn (xr R n)
theorem M7{S:St}{x}{e}(h:S.rd x=some e):(S.fg R).rd (x.er R)=some (e.fg R):=by
 cases x with
 |tmp s=>grind[St.rd,YO.er,Lv.St.rd,ZV,get,Ent.fg,En.fg,uc]
 |k x=>cases h;simp[YO.er,Lv.St.rd,En.fg,ATB]
 |fn n=>cases h;rfl
theorem dK{S:St}:∀{xs:List YO} {es:List En},S.rds xs=some es->(S.fg R).rds (xs.map (YO.er R))=some (es.map (En.fg R))
 | [],es,h=>by cases h;rfl
 |x::xs,es,h=>by simp[St.rds]at h;split at h;rename_i e j q y;cases h;simp[AJ,Lv.St.rds,M7 q,dK y];cases h
structure Ba(S S':St):Prop where
 nv:S.nv<=S'.nv
 tm:∀k e,get S'.tm k=some e->e.ver<S.nv->get S.tm k=some e
 bx:∀k e,get S'.bx k=some e->e.ver<S.nv->get S.bx k=some e
 pin:S'.pin=S.pin
theorem Ba.refl S :Ba S S:=⟨Aj _,λ_ _ h _=>h,λ_ _ h _=>h,rfl⟩
theorem Ba.trans{S S' S2}(h:Ba S S')(q:Ba S' S2):Ba S S2:=
 ⟨Nat.le_trans h.nv q.nv,λk e y j=>h.tm k e (q.tm k e y (BZ j h.nv)) j,λk e y j=>h.bx k e (q.bx k e y (BZ j h.nv)) j,q.pin.trans h.pin⟩
theorem GQ{d:Type} l(k j:Nat)(a:d):get (put l k a) j=if j=k then some a else get l j:=by
 induction l with
 |nil=>by_cases h:j=k;subst h;simp[put,get];grind[put,get,Nat.beq,beq_true]
 |cons p r q=>grind[put,Nat.beq,beq_true,get,beq_false,Nat.ble]
theorem Ba.Lg S  d  sh  cs :Ba S (S.Lg d sh cs):=by refine⟨by simp[St.Lg],λk e j q=>?_,λk e j _=>j,rfl⟩;grind[St.Lg,GQ]
theorem Ba.QW S  d  cs :Ba S (S.QW d cs):=by refine⟨by simp[St.QW],λk e j _=>j,λk e j q=>?_,rfl⟩;grind[St.QW,GQ]
theorem Fx{v}{q}:∀{l:List (Nat×Ent)} {k:Nat} {e:Ent},get (M6 v q l) k=some e->e.ver<v->get l k=some e
 | [],_,_,h,_=>h|(i,b)::r,k,e,h,y=>by
  simp only[M6,get]at h ⊢;cases j:Nat.beq i k with
  |true=>grind[Option.some.injEq]
  |false=>rw[j]at h;exact Fx h y
theorem Dp{v}{q}:∀{l:List (Nat×Bx)} {k:Nat} {e:Bx},get (M5 v q l) k=some e->e.ver<v->get l k=some e
 | [],_,_,h,_=>h|(i,b)::r,k,e,h,y=>by
  simp only[M5,get]at h ⊢;cases j:Nat.beq i k with
  |true=>grind[Option.some.injEq]
  |false=>rw[j]at h;exact Dp h y
theorem NI{d}{ks}:∀{l:List (Nat×d)} {k:Nat} {e:d},get (LH ks l) k=some e->get l k=some e
 | [],_,_,h=>h|(i,b)::r,k,e,h=>by
  simp[LH]at h;simp[get];cases E:mem i ks with
  |true=>
   rw[E]at h;cases q:Nat.beq i k with
   |true=>
    have B:=beq_true q;subst B;exfalso;have:∀(l:List (Nat×d)) (e:d),get (LH ks l) i≠some e:=by
     intro l;induction l with
     |nil=>intro e h;cases h
     |cons p r H=>
      intro e h;obtain⟨j,c⟩:=p;simp[LH]at h;cases y:mem j ks with
      |true=>rw[y]at h;exact H e h|false=>
       rw[y]at h;simp[get]at h;cases G:Nat.beq j i with
       |true=>have:=beq_true G;subst this;rw[E]at y;cases y
       |false=>rw[G]at h;exact H e h
    exact this r e h
   |false=>exact NI h
  |false=>
   rw[E]at h;simp[get]at h;cases q:Nat.beq i k with
   |true=>rw[q]at h;exact h|false=>rw[q]at h;exact NI h
theorem IH{d}{ks}:∀{l:List (Nat×d)} {k:Nat} {e:d},get (Hi ks l) k=some e->get l k=some e
 | [],_,_,h=>h|(i,b)::r,k,e,h=>by
  simp[Hi]at h;simp[get];cases E:mem i ks with
  |false=>
   rw[E]at h;cases q:Nat.beq i k with
   |true=>
    have B:=beq_true q;subst B;exfalso;have:∀(l:List (Nat×d)) (e:d),get (Hi ks l) i≠some e:=by
     intro l;induction l with
     |nil=>intro e h;cases h
     |cons p r H=>
      intro e h;obtain⟨j,c⟩:=p;simp[Hi]at h;cases y:mem j ks with
      |false=>rw[y]at h;exact H e h|true=>
       rw[y]at h;simp[get]at h;cases G:Nat.beq j i with
       |true=>have:=beq_true G;subst this;rw[E]at y;cases y
       |false=>rw[G]at h;exact H e h
    exact this r e h
   |false=>exact IH h
  |true=>
   rw[E]at h;simp[get]at h;cases q:Nat.beq i k with
   |true=>rw[q]at h;exact h|false=>rw[q]at h;exact IH h
theorem Ba.kill S  q :Ba S (S.kill q):=
 ⟨by simp[St.kill],λ_ _ j y=>Fx j y,λ_ _ j y=>Dp j y,rfl⟩
theorem Ba.JT S  ks :Ba S (S.JT ks):=
 ⟨by simp[St.JT],λ_ _ j q=>NI (Fx j q),λ_ _ j q=>Dp j q,rfl⟩
theorem Ba.clean S  ks :Ba S (S.clean ks):=
 ⟨by simp[St.clean],λ_ _ j q=>IH (Fx j q),λ_ _ j q=>IH (Dp j q),rfl⟩
theorem Ba.Bk S  r  l :Ba S (S.Bk r l):=by cases r<;>simp[St.Bk]<;>split<;>first|exact Ba.Lg _ _ _ _|exact Ba.QW _ _ _|exact Ba.refl _
theorem Ba.out S  r :Ba S (S.out r):=(Ba.Bk _ _ _).trans (Ba.kill _ _)
theorem Ba.cj S  r  c :Ba S (S.cj r c):=by
 unfold St.cj St.turn
 repeat' split
 all_goals first|exact Ba.refl _|exact Ba.Bk _ _ _|exact((Ba.out _ _).trans (Ba.Bk _ _ _)).trans (Ba.Bk _ _ _)
theorem Ba.TR:∀(ns:List (CN×C)) (S:St),Ba S (S.TR ns)| [],S=>Ba.refl S|(r,c)::ns,S=>(Ba.cj S r c).trans (Ba.TR ns _)
theorem Gi{e} n(K:Nat->e):Dj n K=K n:=by cases n<;>rfl
theorem U.FY{e} x(K:U->e):x.G5 K=K x:=by cases x<;>rfl
theorem mM{e:Type}:∀(xs:List U) (K:List U->e),gW xs K=K xs| [],K=>rfl|x::xs,K=>by simp only[gW,U.FY,mM xs]
theorem sb{e} r(K:CN->e):mK r K=K r:=by cases r<;>simp[mK,Gi]
theorem AC1{e} r(K:Src->e):Uq r K=K r:=by
 cases r with
 |own r p=>simp[Uq,sb];cases p with|none=>rfl|some p=>obtain⟨i,j⟩:=p;simp[Gi]
 |old k=>simp[Uq,Gi]
theorem AS.FY{e} x(K:AS->e):x.G5 K=K x:=by cases x<;>simp[AS.G5,U.FY,sb,Gi,AC1,mM];grind
theorem NG{e:Type}:∀(xs:List AS) (K:List AS->e),Ql xs K=K xs| [],K=>rfl|x::xs,K=>by simp only[Ql,AS.FY,NG xs]
theorem XG{e:Type}:∀(xs:List (Option Nat)) (K:List (Option Nat)->e),Vy xs K=K xs| [],K=>rfl|none::xs,K=>by simp only[Vy,XG xs]|some n::xs,K=>by simp only[Vy,Gi,XG xs]
theorem mL{e} x(K:Sh->e):gV x K=K x:=by cases x<;>simp[gV,XG,Gi]
theorem sZ{e:Type}:∀(xs:List (Nat×Ent)) (K:List (Nat×Ent)->e),wG xs K=K xs| [],K=>rfl|(k,⟨sh,cs,v⟩)::xs,K=>by simp only[wG,mL,NG,Gi,sZ xs]
theorem sY{e:Type}:∀(xs:List (Nat×Bx)) (K:List (Nat×Bx)->e),wF xs K=K xs| [],K=>rfl|(k,⟨cs,v⟩)::xs,K=>by simp only[wF,NG,Gi,sY xs]
theorem sa{e:Type}:∀(xs:List Nat) (K:List Nat->e),wH xs K=K xs| [],K=>rfl|k::xs,K=>by simp only[wH,sa xs]
theorem FY{e} S(K:St->e):S.G5 K=K S:=by obtain⟨tm,bx,pin,nv⟩:=S;simp[St.G5,sZ,sY,sa,Gi]
theorem AKn{d e} s  a :∀(l:List (Nat×d)) (K:List (Nat×d)->e),AXE s a l K=K (put l s a)
 | [],K=>rfl|(k,b)::r,K=>by
  simp[AXE,put];cases Nat.beq s k with
  |true=>rfl|false=>cases Nat.ble s k with|true=>rfl|false=>simp[AKn s a r]
variable{F:Type}
theorem gv{S}{d}{sh}{cs}{K:St->Option F}{r}(h:IU S d sh cs K=some r) :
 ∃S',(S.fg R).Eo d ⟨sh,cs.map (AS.fg R)⟩=some (S'.fg R)/\Ba S S'/\K S'=some r:=by
 unfold IU at h;cases q:mem d S.pin with
 |true=>rw[q]at h;cases h
 |false=>
  rw[q]at h;have y:d∉(S.fg R).pin:=PR.1 q;cases j:get S.tm d with
  |none=>rw[j]at h;simp[mL,NG,Gi,AKn]at h;refine⟨S.Lg d sh cs,?_,Ba.Lg _ _ _ _,h⟩;grind[Nc,Lv.St.Eo,ZV]
  |some e=>rw[j]at h;simp[FY]at h;refine⟨_,?_,(Ba.kill _ _).trans (Ba.Lg _ _ _ _),h⟩;rw[Lv.St.Eo,Aa y,ZV,j,Nc,<-MQ (Zv d),<-N5 (Zv d)];rfl
end
end Y
namespace Y
section
variable{R:List GF}
theorem AWq l :Lv.yX (AS.fg R l)=yX l:=by cases l<;>rfl
theorem AU6(a b:Option CN):(match a with|some r=>isR b r|none=>b.isNone)=decide (a=b):=by
 cases a with
 |none=>cases b<;>simp
 |some r=>simp only[cP];rw[decide_eq_decide];exact eq_comm
theorem uI:∀ls:List AS,Lv.QQ (ls.map (AS.fg R))=QQ ls
 | []=>rfl|l::ls=>by simp[AJ,Lv.QQ,QQ,uI ls,Ko,Function.comp_def,AWq,Ma];congr 1;refine congrArg (λf=>List.all ls f) (funext λl'=>?_);rw[<-AU6]<;>(cases l.CA<;>rfl)
theorem XV(S:St) r :(S.out r).fg R=(S.fg R).out r:=by rw[St.out,Lv.St.out,<-MQ (AMF r),Gv];rfl
theorem AXj(S:St) r :(S.turn r).fg R=(S.fg R).turn r:=by
 rw[St.turn,Lv.St.turn,Kj];cases h:S.at r with
 |none=>rfl|some l=>
  cases l with
  |al r' sub=>
   cases sub with
   |none=>
    simp[As,AS.fg];rw[Kj];cases j:S.at r' with
    |none=>rfl|some l'=>cases l'<;>simp[AS.fg,Gv,XV]
   |some p=>rfl
  |_=>rfl
theorem AW0(S:St) r  c :(S.cj r c).fg R=(S.fg R).cj r c.size:=by
 unfold St.cj Lv.St.cj;cases j:Nat.beq c.size 0 with
 |true=>rw[AY (FK j)];exact AXj S r|false=>
  rw[Aa (Iy j),Kj];cases h:S.at r with
  |none=>rfl|some l=>grind[AS.fg,U.fg,Gv,AZU,AFH]
theorem yi:∀(ns:List (CN×C)) (S:St),(S.TR ns).fg R=(S.fg R).TR (ns.map λp=>(p.1,p.2.size))| [],S=>rfl|(r,c)::ns,S=>by simp only[St.TR,AJ,Lv.St.TR];rw[yi ns,AW0]
theorem pE:∀{ls:List AS} {S S':St} {ls':List AS},LO S ls=some (S',ls')->Lv.LO (S.fg R) (ls.map (AS.fg R))=some (S'.fg R,ls'.map (AS.fg R))/\Ba S S'
 | [],S,S',ls',h=>by cases h;exact⟨rfl,Ba.refl _⟩
 |l::ls,S,S',ls',h=>by
  have gen:(match LO S ls with|some (S',ls')=>some (S',l::ls')|none=>none)=some (S',ls') ->
   (match Lv.LO (S.fg R) (ls.map (AS.fg R)) with|some (S',ls')=>some (S',AS.fg R l::ls')|none=>none)=some (S'.fg R,ls'.map (AS.fg R))/\Ba S S':=by
   intro h;split at h;rename_i S2 E q;cases h;obtain⟨j,y⟩:=pE q;rw[j];exact⟨rfl,y⟩;cases h
  cases l with
  |al r sub=>simp[LO]at h;simp[AJ,AS.fg,Lv.LO,Kj];split at h;rename_i x B;rw[B];split at h;rename_i S2 E q;cases h;obtain⟨j,y⟩:=pE q;rw[XV]at j;simp only[As,AS.fg,j,AJ,ae];exact⟨trivial,(Ba.out _ _).trans y⟩;cases h;cases h
  |_=>exact gen h
theorem Si{ls:List AS}{S S':St}{ls':List AS}(h:M8 S ls=some (S',ls')):Lv.M8 (S.fg R) (ls.map (AS.fg R))=some (S'.fg R,ls'.map (AS.fg R))/\Ba S S':=by grind[M8,Lv.M8,uI,pE]
theorem AWK{x:YO}{ls:List AS}{S S':St}{ls':List AS}(h:uo S x ls=some (S',ls')):Lv.uo (S.fg R) (x.er R) (ls.map (AS.fg R))=some (S'.fg R,ls'.map (AS.fg R))/\Ba S S':=by
 cases x with
 |tmp s=>unfold uo at h;simp only[Lv.uo,YO.er];dsimp at h;split at h;rename_i j;rw[AY (show s∈(S.fg R).pin from mem_iff.1 j)];cases h;exact⟨rfl,Ba.refl _⟩;next j=>rw[Aa (show s∉(S.fg R).pin from PR.1 j)];exact Si h
 |k y=>exact Si h|fn n=>exact Si h
theorem nD x :Lv.T1 x.fg=T1 x:=by cases x<;>rfl
theorem AWt x :Lv.cQ x.fg=cQ x:=by cases x<;>rfl
theorem ALs rows :∀(q:List (Nat×Nat)) (i j:Nat),Om rows (q++[(i,j)])=KN (Om rows q) i j .top:=by
 intro q;induction q generalizing rows with
 |nil=>intro i j;rfl
 |cons p q y=>intro i j;obtain⟨a,b⟩:=p;simp[A8,Om];exact y _ i j
theorem AKm{S S'}{r}{i j}(h:S.pull r i j=some S'):(S.fg R).pull r i j=some (S'.fg R)/\Ba S S':=by unfold St.pull at h;rw[Lv.St.pull,Kj];split at h;rename_i c xs q;cases h;rw[q];simp[As,AS.fg,U.fg,AE];refine⟨?_,(Ba.Bk _ _ _).trans (Ba.kill _ _)⟩;rw[<-MQ (TU r),Gv];rfl;rename_i c xs y q;cases h;rw[q];simp[As,AS.fg,AE];refine⟨?_,(Ba.Bk _ _ _).trans (Ba.kill _ _)⟩;rw[<-MQ (TU r),Gv];simp[AS.fg,ALs];cases h
theorem ATe(r:CN):∀ls:List AS,Lv.onR r (ls.map (AS.fg R))=onR r ls| []=>rfl|l::ls=>by simp only[AJ,Lv.onR,onR,Ma,cP,ATe r ls]
theorem MU:∀{ls:List AS} {S S':St} {us:List U},D5 S ls=some (S',us)->Lv.D5 (S.fg R) (ls.map (AS.fg R))=some (S'.fg R,us.map U.fg)/\Ba S S'
 | [],S,S',us,h=>by cases h;exact⟨rfl,Ba.refl _⟩
 |l::ls,S,S',us,h=>by
  cases l with
  |t x=>simp only[D5]at h;simp only[AJ,AS.fg,Lv.D5,nD];split at h;cases h;next G=>rw[Aa G];split at h;rename_i S2 I B;cases h;obtain⟨y,E⟩:=MU B;rw[y];exact⟨rfl,E⟩;cases h
  |al r sub=>simp[D5]at h;simp[AJ,AS.fg,Lv.D5,Kj];split at h;rename_i x H;rw[H];split at h;rename_i S2 I B;cases h;obtain⟨y,E⟩:=MU B;rw[XV]at y;simp only[As,AS.fg,y,AJ,ae];exact⟨trivial,(Ba.out _ _).trans E⟩;cases h;cases h
  |vw s c xs=>
   cases s with
   |old k=>cases h
   |own r p=>
    cases p with
    |none=>simp[D5]at h;simp[AJ,AS.fg,Lv.D5,Kj];split at h;rename_i x H;rw[H];split at h;rename_i S2 I B;cases h;obtain⟨y,E⟩:=MU B;rw[XV]at y;simp only[As,AS.fg,y,AJ,U.fg];exact⟨trivial,(Ba.out _ _).trans E⟩;cases h;cases h
    |some q=>obtain⟨i,j⟩:=q;simp only[D5]at h;simp only[AJ,AS.fg,Lv.D5,ATe];split at h;cases h;next G=>rw[Aa G];split at h;rename_i S1 J;obtain⟨L,O⟩:=AKm (R:=R) J;rw[L];split at h;rename_i S2 I B;cases h;obtain⟨y,E⟩:=MU B;simp only[y,AJ,U.fg];exact⟨trivial,O.trans E⟩;cases h;cases h
  |_=>cases h
theorem AVr{S:St}{l}{u}(h:S.IT l=some u):(S.fg R).IT (AS.fg R l)=some u.fg:=by
 cases l with
 |t x=>cases h;rfl
 |al r sub=>grind[St.IT,AS.fg,Lv.St.IT,Kj,ae]
 |vw s c xs=>cases h;rfl
 |ow x=>cases h;rfl
 |_=>cases h
theorem WM{S:St}:∀{ls:List AS} {us:List U},S.IL ls=some us->(S.fg R).IL (ls.map (AS.fg R))=some (us.map U.fg)
 | [],us,h=>by cases h;rfl
 |l::ls,us,h=>by simp[St.IL]at h;split at h;rename_i x xs j q;cases h;simp[AJ,Lv.St.IL,AVr j,WM q];cases h
theorem AOU{k}{l}{u}(h:Ra k l=some u):Lv.Ra k (AS.fg R l)=some u.fg:=by
 cases l with
 |t x=>cases h;rfl
 |vw s c xs=>
  cases s with
  |own r p=>cases h
  |old q=>simp only[Ra]at h;simp only[AS.fg,Lv.Ra];split at h;rename_i j;cases h;rw[AY j];rfl;cases h
 |_=>cases h
theorem PG{k}:∀{ls:List AS} {us:List U},F6 k ls=some us->Lv.F6 k (ls.map (AS.fg R))=some (us.map U.fg)
 | [],us,h=>by cases h;rfl
 |l::ls,us,h=>by simp[F6]at h;split at h;rename_i x xs j q;cases h;simp[AJ,Lv.F6,AOU j,PG q];cases h
theorem NL:∀ls:List AS,Lv.Df (ls.map (AS.fg R))=Df ls
 | []=>rfl|l::ls=>by
  have j:=NL ls;cases l with
  |vw s c xs=>cases s with|old k=>rfl|own r p=>simpa[AS.fg,Lv.Df,Df] using j
  |_=>simpa[AS.fg,Lv.Df,Df] using j
theorem ATG k  u :AS.fg R (Ew k u)=Lv.Ew k u.fg:=by cases u<;>rfl
theorem ATC u :AS.fg R (I0 u)=Lv.I0 u.fg:=by cases u<;>rfl
theorem tC s  u :AS.fg R (MR s u)=Lv.MR s u.fg:=by cases u<;>rfl
theorem PQ k(us:List U):(us.map (Ew k)).map (AS.fg R)=(us.map U.fg).map (Lv.Ew k):=by simp[Function.comp_def,ATG]
theorem V5(us:List U):(us.map I0).map (AS.fg R)=(us.map U.fg).map Lv.I0:=by simp[Function.comp_def,ATC]
theorem oR:∀ls:List AS,Lv.Qy (ls.map (AS.fg R))=Qy ls| []=>rfl|l::ls=>by simp only[AJ,Lv.Qy,Qy,Ma,oR ls]
theorem AMJ l :Lv.TX (AS.fg R l)=TX l:=by
 cases l<;>try rfl
 rename_i r sub;cases sub<;>rfl;next s c xs=>cases s with
 |own r p=>cases p<;>rfl
 |old k=>rfl
theorem AWN{S}{m}{l}{us}(h:AYo S m l=some us):Lv.ALY (S.fg R) l.fg=some (match m with|false=>.v .one (us.map U.fg)|true=>.p (us.map U.fg)):=by cases m<;>cases l<;>simp only[AYo]at h;cases h;rfl;cases h;rfl;cases h;cases h;cases h;cases h;cases h;rfl;next id off=>simp[Cap.fg,Lv.ALY,Pw];split at h;rename_i ls j;rw[j];split at h;rename_i q;simp only[As,oR,q,if_true];have:=WM (R:=R) h;rw[Cp]at this;rw[this];rfl;cases h;cases h
theorem AAt{S}:∀{l:List (Bool×C)} {cs:List Cap} {y:uV l},AID S l cs=some y->Lv.iM (S.fg R) (cs.map Cap.fg)=some (UC l y)
 | [],[],y,h=>by cases h;rfl
 |(m,c)::l,[],y,h=>by cases h
 | [],a::cs,y,h=>by cases h
 |(m,c)::l,a::cs,y,h=>by simp[AID]at h;split at h;rename_i us j;split at h;rename_i x E q B;cases h;simp[AJ,Lv.iM,AWN j,AAt B];cases m<;>simp[UC,Jj q];cases h;cases h
theorem aQ{a b}(h:ANn a b=true):a=b:=by cases a<;>cases b<;>simp[ANn]at h<;>rfl
end
end Y
namespace Y
section
variable{R:List GF}
variable{c:C}{e:En}{xs:List CQ}{fs:List Nat}{S:St}
def Al(R:List GF)(fs:List Nat)(xs:List CQ):Prop:=∀(i:Nat) (x:CQ) (n:Nat),xs[i]?=some x->fs[i]?=some n->xr R n=x
theorem Al.of(h:fs.map (λn=>(R[n]?).map GF.x)=xs.map some):Al R fs xs:=by intro i x n j q;have y:=congrArg (λl=>l[i]?) h;simp[A0,j,q,As]at y;grind[xr]
theorem Al.nil xs :Al R [] xs:=by intro i x n _ h;simp at h
theorem Al.tail{fs:List Nat}{x:CQ}{xs:List CQ}(h:Al R fs (x::xs)):Al R fs.tail xs:=by
 intro i y n q j;cases fs with
 |nil=>simp at j|cons a fs=>exact h (i+1) y n (by simpa using q) (by simpa using j)
theorem AVb k :k.md.Fl=PK.Fl k:=by cases k<;>rfl
theorem uU k :k.md.writes=PK.writes k:=by cases k<;>rfl
theorem AEb:∀(ks:List PK) (es:List En),Lv.IQ (ks.map PK.md) (es.map (En.fg R))=(IQ ks es).map (AS.fg R)
 | [],es=>by cases es<;>rfl
 |k::ks,[]=>rfl|k::ks,e::es=>by simp[AJ,Lv.IQ,IQ,AVb,Dc,AEb ks es];congr 1;split<;>simp[En.fg]
def bp0:En->Option Nat|⟨.one,[.bp id 0]⟩=>some id|_=>none
def AZB:Lv.Ent->Option Nat|⟨.one,[.bp id 0]⟩=>some id|_=>none
theorem AOY e :AZB (e.fg R)=bp0 e:=by
 obtain⟨sh,cs⟩:=e;cases sh<;>try rfl
 rcases cs with _|⟨l,_|⟨j,ls⟩⟩;rfl;cases l<;>try rfl
 rename_i id off;cases off<;>rfl;cases l<;>try rfl
 next id off=>cases off<;>rfl
theorem AWI(S:St)(c:C)(ks:List PK)(e:En)(es:List En):FT S (.b c::ks) (e::es)=match bp0 e with
 |some id=>(match get S.bx id with|some ls=>FT (S.QW id (ls.cs.map λ_=>.t .top)) ks es|none=>FT S ks es)
 |none=>FT S ks es:=by
 obtain⟨sh,cs⟩:=e;cases sh<;>try rfl
 rcases cs with _|⟨l,_|⟨j,ls⟩⟩;rfl;cases l<;>try rfl
 rename_i id off;cases off<;>rfl;cases l<;>try rfl
 next id off=>cases off<;>rfl
theorem ATA(S:Lv.St)(ms:List Md)(e:Lv.Ent)(es:List Lv.Ent):Lv.FT S (.b::ms) (e::es)=match AZB e with
 |some id=>(match Lv.get S.bx id with|some ls=>Lv.FT { S with bx:=Lv.put S.bx id (ls.map λ_=>.t .top)} ms es|none=>Lv.FT S ms es)
 |none=>Lv.FT S ms es:=by
 obtain⟨sh,cs⟩:=e;cases sh<;>try rfl
 rcases cs with _|⟨l,_|⟨j,ls⟩⟩;rfl;cases l<;>try rfl
 rename_i id off;cases off<;>rfl;cases l<;>try rfl
 next id off=>cases off<;>rfl
theorem Rc:∀(ks:List PK) (S:St) (es:List En),(FT S ks es).fg R=Lv.FT (S.fg R) (ks.map PK.md) (es.map (En.fg R))/\Ba S (FT S ks es)
 | [],S,es=>by cases es<;>exact⟨rfl,Ba.refl _⟩
 |k::ks,S,[]=>by exact⟨rfl,Ba.refl _⟩|k::ks,S,e::es=>by
  cases k with
  |b c=>
   rw[AWI];simp[AJ,PK.md];rw[ATA,AOY];cases bp0 e with
   |none=>dsimp;exact Rc ks S es|some id=>
    simp[Pw];cases get S.bx id with
    |none=>exact Rc ks S es|some ls=>obtain⟨j,q⟩:=Rc ks (S.QW id (ls.cs.map λ_=>.t .top)) es;refine⟨?_,(Ba.QW _ _ _).trans q⟩;simp[As];rw[j,WD];simp[Function.comp_def,AS.fg,U.fg]
  |_=>have h:=Rc ks S es;simpa[FT,Lv.FT,AJ,PK.md] using h
theorem AV8{x}(h:AYb S c e=some x):Lv.UB (S.fg R) .p (e.fg R)=some (.p (enc c x)):=by simp[AYb]at h;split at h;rename_i id off;simp[En.fg,AJ,Bb,AS.fg,Lv.UB,Pw];split at h;rename_i ls j;rw[j];split at h;rename_i q;simp[As,oR,q,if_true];split at h;rename_i us y;have:=WM (R:=R) y;rw[Cp]at this;rw[this,Jj h];cases h;cases h;cases h;simp[En.fg,AJ,Bb,AS.fg,Lv.UB,Jj h];cases h
theorem AV6{x}(h:AYZ S c e=some x):Lv.UB (S.fg R) .b (e.fg R)=some (.b (enc c x)):=by simp[AYZ]at h;split at h;rename_i id;simp[En.fg,AJ,Bb,AS.fg,Lv.UB,Pw];split at h;rename_i ls j;rw[j];split at h;rename_i us q;simp[As,NL,PG q,Jj h];cases h;cases h;cases h
theorem AV7{x:CQ}{l:List (Bool×C)}{y:uV l}(hA:Al R fs (x::xs))(h:AYa S fs l e=some y):Lv.UB (S.fg R) .v (e.fg R)=some (.f x (UC l y)):=by simp[AYa]at h;split at h;rename_i n caps;split at h;rename_i B j;split at h;rename_i q;subst q;have:=hA 0 x B rfl rfl;simp[En.fg,AJ,Bb,AS.fg,Lv.UB,AAt h,this];cases h;cases h;cases h
theorem AZV{S}{e}{cs}(h:S.IL e.cs=some cs):Lv.UB S .v e=some (.v e.sh cs):=by
 obtain⟨sh,ls⟩:=e;have gen:(match S.IL ls with|some cs=>some (V.v sh cs)|none=>none)=some (.v sh cs):=by dsimp at h;rw[h]
 cases sh<;>try exact gen
 rcases ls with _|⟨l,_|⟨j,ls⟩⟩;exact gen;cases l<;>try exact gen
 simp[Lv.St.IL,Lv.St.IT]at h;cases l<;>exact gen
theorem AV9{x}(h:AYc S c e=some x)(j:e.sh=shC c):Lv.UB (S.fg R) .v (e.fg R)=some (.v (shC c) (enc c x)):=by simp[AYc]at h;split at h;rename_i us q;have:=AZV (e:=e.fg R) (WM (R:=R) q);rw[this];simp[En.fg,j,Jj h];cases h
theorem TP{S}:∀{ks:List PK} {fs:List Nat} {es:List En} {us:List U} {a:A ks},Al R fs (fX ks)->KK S fs ks es us=some a->Lv.KK (S.fg R) (ks.map PK.md) (es.map (En.fg R)) (us.map U.fg)=some (aVs ks a)
 | [],fs,[],us,a,_,h=>by simp[Lv.KK,aVs]| [],fs,e::es,us,a,_,h=>by simp[KK]at h|k::ks,fs,[],us,a,_,h=>by simp[KK]at h|k::ks,fs,e::es,us,a,hA,h=>by
  cases k with
  |o c=>simp only[KK]at h;split at h;rename_i B;split at h;rename_i x y j q;cases h;have E:=TP (show Al R fs (fX ks) from hA) q;rw[Cp]at E;simp[AJ,PK.md,Lv.KK,En.fg,Af,E,aVs,PK.V,Jj j,C8,aQ B];cases h;cases h
  |m c=>
   simp only[KK]at h;split at h;rename_i B;split at h;rename_i x y j q;cases h;have E:=TP (show Al R fs (fX ks) from hA) q;rw[Cp]at E;have G:(e.cs.map (AS.fg R)).all Lv.TX=true:=by rw[Ko];simpa[Function.comp_def,AMJ] using B.2.1
   simp only[AJ,PK.md,Lv.KK,En.fg,Af,E,aVs,PK.V,Jj j,C8,aQ B.1,G];rw[AY ⟨trivial,by rw[<-aQ B.1];exact B.2.2⟩];cases h;cases h
  |f x l=>simp[KK]at h;split at h;rename_i y z j q;cases h;simp[AJ,PK.md,Lv.KK,AV7 hA j,TP hA.tail q,aVs,PK.V];cases h
  |v c=>simp only[KK]at h;split at h;rename_i B;split at h;rename_i y z j q;cases h;simp[AJ,PK.md,Lv.KK,AV9 j (aQ B),TP (show Al R fs (fX ks) from hA) q,aVs,PK.V];cases h;cases h
  |p c=>simp[KK]at h;split at h;rename_i y z j q;cases h;simp[AJ,PK.md,Lv.KK,AV8 j,TP (show Al R fs (fX ks) from hA) q,aVs,PK.V];cases h
  |b c=>simp[KK]at h;split at h;rename_i y z j q;cases h;simp[AJ,PK.md,Lv.KK,AV6 j,TP (show Al R fs (fX ks) from hA) q,aVs,PK.V];cases h
theorem AOR{S':St}{ks:List PK}{es:List En}{a:A ks}(hA:Al R fs (fX ks))(h:Xz S fs ks es=some (S',a)) :
 Lv.Xz (S.fg R) (ks.map PK.md) (es.map (En.fg R))=some (S'.fg R,aVs ks a)/\Ba S S':=by unfold Xz at h;unfold Lv.Xz;split at h;rename_i S1 us j;obtain⟨q,y⟩:=MU (R:=R) j;rw[AEb,q];split at h;rename_i H B;cases h;obtain⟨E,G⟩:=Rc (R:=R) ks S1 es;simp only[TP hA B,E];exact⟨trivial,y.trans G⟩;cases h;cases h
theorem nP l :Lv.names (AS.fg R l)=names l:=by
 cases l<;>try rfl
 next n caps=>simp[AS.fg,Lv.names,names,List.filterMap_map];congr 1;funext c;cases c<;>rfl
theorem ANo l l' :Lv.VQ (AS.fg R l) (AS.fg R l')=VQ l l':=by grind[Lv.VQ,VQ,Ma,nP,Zu,cP]
theorem ANp l l' :Lv.Td (AS.fg R l) (AS.fg R l')=Td l l':=by grind[Lv.Td,Td,Ma,nP,Zu,cP]
theorem ANq e j :Lv.shares (e.fg R) (j.fg R)=shares e j:=by simp[Lv.shares,shares,En.fg,IV,Function.comp_def,ANo]
theorem AAv:∀(ks:List PK) (prev es:List En),Lv.Re (prev.map (En.fg R)) (ks.map PK.md) (es.map (En.fg R))=Re prev ks es
 | [],prev,es=>by cases es<;>rfl
 |k::ks,prev,[]=>rfl|k::ks,prev,e::es=>by have j:=AAv ks (e::prev) es;simp[AJ]at j ⊢;simp[Lv.Re,Re,uU,IV,Function.comp_def,ANq,j]
end
end Y
theorem AHv{b}{y}(h:br b x y=some r):(b=true/\x=some r)\/(b=false/\y=some r):=by grind[AYk]
theorem SA{e}{p} [Decidable p]{x:Option e}{r}(h:gd p x=some r):p/\x=some r:=by grind[AFK]
theorem YG{f}(h:bd o f=some r):∃a,o=some a/\f a=some r:=ob (uj o f▸h)
theorem aN X  i j  o  k :(KN X i j o)[k]?=if k=i then (X[i]?).map (λrow=>row.set j o) else X[k]?:=by grind[KN,List.getElem?_eq_getElem,List.getElem?_eq_none]
theorem ANl X(i j y q:Nat)(o t:T)(h:q≠j):KN (KN X y q t) i j o=KN (KN X i j o) y q t:=by apply GN;grind[aN,List.set_comm]
theorem ANm X  i j  o t :KN (KN X i j t) i j o=KN X i j o:=by
 apply GN;intro k;simp[aN];by_cases q:k=i;subst q;simp[if_true];cases X[k]? with|none=>rfl|some row=>simp
 simp[Aa q]
namespace Y
section
variable{R:List GF}{F:Type}
variable{ls:List AS}{es:List En}{d:Nat}{S:St}{K:St->Option F}
theorem sj i j  o :∀(q:List (Nat×Nat)) (X:List (List T)),(∀p∈q,p.2≠j)->KN (Om X q) i j o=Om (KN X i j o) q
 | [],X,_=>rfl|(a,b)::q,X,h=>by simp[Om];rw[sj i j o q _ (λp y=>h p (by simp[y])),ANl X i j a b o .top (h (a,b) (by simp))]
theorem AVE{c:C}{xs:List c.D}{i j:Nat}{o:U}{x y:c.D}(q:xs[i]?=some x)(h:ofC c ((cells c x).set j o)=some y):KN (xs.map (enc c)) i j o.fg=(xs.set i y).map (enc c):=by have B:i<xs.length:=(AO.1 q).1;apply GN;intro k;simp only[aN,A0,Eb];by_cases E:k=i;subst E;simp only[if_true,q,As,B,AE];rw[Jj h,Fw,IW];grind
theorem Px:∀{ls:List AS} {us:List U} {S:St} {K:St->Option F} {r:F},IN S ls us K=some r ->
 ∃S',Lv.IN (S.fg R) (ls.map (AS.fg R)) (us.map U.fg)=some (S'.fg R)/\Ba S S'/\K S'=some r
 | [],[],S,K,r,h=>⟨S,rfl,Ba.refl _,h⟩| [],u::us,S,K,r,h=>by simp[IN]at h|l::ls,[],S,K,r,h=>by cases l<;>simp[IN]at h
 |l::ls,o::us,S,K,r,h=>by
  cases l with
  |t x=>have h:IN S ls us K=some r:=h;obtain⟨S',y,B,E⟩:=Px h;exact⟨S',y,B,E⟩
  |al q sub=>
   cases sub with
   |some p=>simp[IN]at h|none=>have h:IN (S.Bk q (.ow o)) ls us K=some r:=h;obtain⟨S',y,B,E⟩:=Px h;refine⟨S',?_,(Ba.Bk _ _ _).trans B,E⟩;rw[Gv]at y;exact y
  |vw s c xs=>
   cases s with
   |old k=>simp[IN]at h|own q p=>
    cases p with
    |none=>simp[IN]at h|some p=>
     obtain⟨i,j⟩:=p;simp only[IN]at h;split at h;rename_i c' rows i' Z H I;split at h;rename_i Q;obtain⟨rfl,G⟩:=Q;obtain⟨rfl,h⟩:=SA h;obtain⟨x,Y,h⟩:=YG h;split at h;rename_i x' L;obtain⟨S',y,B,E⟩:=Px h;refine⟨S',?_,((Ba.Bk _ _ _).trans (Ba.kill _ _)).trans B,E⟩;have J:∀p∈H,p.2≠Z:=by intro p X;have:=List.all_eq_true.1 G p X;intro O;simp[O]at this
     simp[AJ,AS.fg,Lv.IN,Kj,I,As];rw[<-MQ (TU q),Gv]at y;rw[<-y];congr 3;simp[Om];rw[sj _ _ _ H _ J,ANm,AVE Y L];cases H with
     |nil=>simp[AS.fg,U.fg,Om]|cons p H=>simp[AS.fg]
     cases h;cases h;cases h
  |_=>simp[IN]at h
theorem AWx(S0 S:Lv.St)(ms:List Md)(e:Lv.Ent)(es:List Lv.Ent)(outs:List (List T)):Lv.GW S0 S (.b::ms) (e::es) outs=match AZB e,outs with
 |some id,o::outs=>(match Lv.get S0.bx id,Lv.get S.bx id with
  |some ls,some j=>if o.length=j.length then Lv.GW S0 { S with bx:=Lv.put S.bx id (o.map (Lv.Ew (Lv.Df ls)))} ms es outs else none
  |_,_=>none)
 |_,_=>none:=by
 obtain⟨sh,cs⟩:=e;cases sh<;>try rfl
 rcases cs with _|⟨l,_|⟨q,ls⟩⟩;rfl;cases l<;>try rfl
 rename_i id off;cases off<;>cases outs<;>rfl;cases l<;>try rfl
 next id off=>cases off<;>rfl
theorem AYg{S0 S:St}{c:C}{ks:List PK}{e:En}{es:List En}{outs:List (List U)}{K:St->Option F}:GW S0 S (.b c::ks) (e::es) outs K=match bp0 e,outs with
 |some id,o::outs=>(match get S0.bx id,get S.bx id with
  |some ls,some j=>if o.length=j.cs.length then GW S0 (S.QW id (o.map (Ew (Df ls.cs)))) ks es outs K else none|_,_=>none)
 |_,_=>none:=by
 obtain⟨sh,cs⟩:=e;cases sh<;>try rfl
 rcases cs with _|⟨l,_|⟨q,ls⟩⟩;rfl;cases l<;>try rfl
 rename_i id off;cases off<;>cases outs<;>rfl;cases l<;>try rfl
 next id off=>cases off<;>rfl
theorem Pe{S0}:∀{ks:List PK} {es:List En} {outs:List (List U)} {S:St} {K:St->Option F} {r:F},GW S0 S ks es outs K=some r ->
 ∃S',Lv.GW (S0.fg R) (S.fg R) (ks.map PK.md) (es.map (En.fg R)) (outs.map λo=>o.map U.fg)=some (S'.fg R)/\Ba S S'/\K S'=some r
 | [],es,[],S,K,r,h=>by refine⟨S,?_,Ba.refl _,?_⟩;cases es<;>rfl;cases es<;>exact h
 | [],es,o::outs,S,K,r,h=>by cases es<;>simp[GW]at h
 |k::ks,[],outs,S,K,r,h=>by cases outs<;>simp[GW]at h
 |k::ks,e::es,outs,S,K,r,h=>by
  cases k with
  |b c=>rw[AYg]at h;simp[AJ,PK.md];rw[AWx,AOY];split at h;rename_i id o outs' J;rw[J];simp only[AJ,Pw];split at h;rename_i ls O L E;rw[L,E];split at h;rename_i B;obtain⟨S',j,q,y⟩:=Pe h;refine⟨S',?_,(Ba.QW _ _ _).trans q,y⟩;simp only[As,Af,B,if_true];rw[WD,PQ]at j;rw[NL];exact j;cases h;cases h;cases h
  |m c=>
   cases outs with
   |nil=>simp[GW]at h|cons o outs=>have h:IN S e.cs o (λS'=>GW S0 S' ks es outs K)=some r:=h;obtain⟨S1,j,q,y⟩:=Px (R:=R) h;obtain⟨S',G,H,I⟩:=Pe y;refine⟨S',?_,q.trans H,I⟩;simp[AJ,PK.md,Lv.GW,En.fg,j];exact G
  |v c=>
   have h:GW S0 S ks es outs K=some r:=by cases outs<;>exact h
   obtain⟨S',j,q,y⟩:=Pe h;refine⟨S',?_,q,y⟩;cases outs<;>exact j
  |p c=>
   have h:GW S0 S ks es outs K=some r:=by cases outs<;>exact h
   obtain⟨S',j,q,y⟩:=Pe h;refine⟨S',?_,q,y⟩;cases outs<;>exact j
  |o c=>
   have h:GW S0 S ks es outs K=some r:=by cases outs<;>exact h
   obtain⟨S',j,q,y⟩:=Pe h;refine⟨S',?_,q,y⟩;cases outs<;>exact j
  |f x l=>
   have h:GW S0 S ks es outs K=some r:=by cases outs<;>exact h
   obtain⟨S',j,q,y⟩:=Pe h;refine⟨S',?_,q,y⟩;cases outs<;>exact j
theorem ADa{cs}{sh}{r}(h:AKd S d ls sh cs K=some r):∃S',Lv.Qt (S.fg R) d (ls.map (AS.fg R)) ⟨sh,cs.map (AS.fg R)⟩=some (S'.fg R)/\Ba S S'/\K S'=some r:=by unfold AKd at h;split at h;cases h;next j=>have q:d∉(S.fg R).pin:=PR.1 j;refine⟨_,?_,((Ba.kill _ _).trans (Ba.Lg _ _ _ _)).trans (Ba.QW _ _ _),h⟩;rw[Lv.Qt,Aa q,WD,Nc,<-MQ (q':=λl=>Lv.Fb d l||Lv.Gb d l) (λl=>by rw[Zv,Zu])]
theorem nQ{r}(h:Qt S d ls K=some r):∃S',Lv.Qt (S.fg R) d (ls.map (AS.fg R))=some (S'.fg R)/\Ba S S'/\K S'=some r:=ADa h
theorem AWw{e}{k}(h:nG S e=some k):Lv.nG (S.fg R) (e.fg R)=some k:=by
 have gen:∀(cs:List AS),(if (F6 (Df cs) cs).isSome=true then some (Df cs) else none)=some k->(if (Lv.F6 (Lv.Df (cs.map (AS.fg R))) (cs.map (AS.fg R))).isSome=true then some (Lv.Df (cs.map (AS.fg R))) else none)=some k:=by
  intro cs h;rw[NL];cases q:F6 (Df cs) cs with
  |none=>rw[q]at h;simp at h|some us=>rw[PG q];rw[q]at h;simpa using h
 obtain⟨sh,cs⟩:=e;cases sh<;>try exact gen cs h
 rcases cs with _|⟨l,_|⟨y,ls⟩⟩;exact gen [] h;have j:=gen [l];cases l with
 |bp id off=>grind[nG,En.fg,AS.fg,Lv.nG,Pw]
 |_=>exact j h
 have j:=gen (l::y::ls);cases l<;>exact j h
theorem ya{g:GF}{S0}{k lab}(h:cV g.ps S0 es k=some lab):Lv.cV g.x (S0.fg R) (es.map (En.fg R)) k=some lab:=by
 unfold cV at h;rw[Lv.cV,g.ms];simp[A0];split at h;next e B=>rw[B];simp only[As];split at h;cases h;next E=>rw[Aa];exact AWw h;intro j;cases y:g.ps[k]? with
 |none=>rw[y]at j;simp at j|some q=>rw[y]at j;cases q<;>simp[PK.md]at j;exact E _ y
 cases h
theorem mG:∀(cs:List C) (x:Tu cs),S7 cs x=(OJ cs x).map λl=>l.map U.fg| [],_=>rfl| [c],x=>congrArg (λz=>[z]) (Fw c x)|c::j::cs,x=>by simp only[S7,OJ,AJ,Fw,mG (j::cs) x.2]
theorem AXA{d:Nat}{g:GF}{es:List En}{S0 S:St}{x}{K:St->Option F}{r:F}(h:post d g es S0 S x K=some r) :
 ∃S',Lv.post d g.x (es.map (En.fg R)) (S0.fg R) (S.fg R) g.rk.sh ((S7 _ x).take g.rk.cs.length).flatten ((S7 _ x).drop g.rk.cs.length)=some (S'.fg R)/\Ba S S'/\K S'=some r:=by
 unfold post at h;obtain⟨S1,J,H,j⟩:=Pe (R:=R) h;rw[Lv.post,g.ms,mG,<-Cp,J,<-C8,<-Lj];generalize ((OJ (g.rk.cs++NR g.ps) x).take g.rk.cs.length).flatten=us at j;dsimp;cases I:g.rk with
 |ptr k c=>rw[I]at j;simp only[RK.sh];dsimp at j;split at j;rename_i lab G;rw[ya G];obtain⟨S2,q,y,B⟩:=nQ (R:=R) j;rw[PQ]at q;exact⟨S2,q,H.trans y,B⟩;cases j
 |vw k c=>rw[I]at j;simp only[RK.sh];dsimp at j;split at j;rename_i lab G;rw[ya G];obtain⟨S2,q,y,B⟩:=gv (R:=R) j;rw[PQ]at q;exact⟨S2,q,H.trans y,B⟩;cases j
 |T8 k c L=>rw[I]at j;simp only[RK.sh];dsimp at j;split at j;rename_i lab G;rw[ya G];rw[NG,NG,Gi]at j;obtain⟨S2,q,y,B⟩:=ADa (R:=R) j;rw[PQ,AJ,V5,C8,Cp]at q;refine⟨S2,?_,H.trans y,B⟩;dsimp;rw[Af];exact q;cases j
 |ret cs=>
  rw[I]at j;dsimp at j;obtain⟨S2,q,y,B⟩:=gv (R:=R) j;rw[V5]at q;refine⟨S2,?_,H.trans y,B⟩;simp[RK.sh];cases E:zg (cs.map wC) with
  |ptr k=>exfalso;revert E;unfold zg;split<;>simp|vw k=>exfalso;revert E;unfold zg;split<;>simp|T8 k n=>exfalso;revert E;unfold zg;split<;>simp|one=>rw[E]at q;exact q|agg=>rw[E]at q;exact q|tup ns=>rw[E]at q;exact q
theorem AAq{g:GF}{fs:List Nat}{r:F}(hA:Al R fs (fX g.ps))(h:AIC d g fs es S K=some r) :
 ∃S1 vs cs outs S',Lv.pre g.x (es.map (En.fg R)) (S.fg R)=some (S1,vs)/\K8 g.x vs g.rk.sh cs outs/\Lv.post d g.x (es.map (En.fg R)) (S.fg R) S1 g.rk.sh cs outs=some (S'.fg R)/\Ba S S'/\K S'=some r:=by unfold AIC at h;split at h;cases h;next H=>split at h;rename_i S1 a j;obtain⟨x,I,h⟩:=YG h;obtain⟨q,y⟩:=AOR hA j;obtain⟨S',B,E,G⟩:=AXA (R:=R) h;refine⟨_,_,_,_,S',?_,g.ok a x I,B,y.trans E,G⟩;rw[Lv.pre,g.ms];have:=AAv (R:=R) g.ps [] es;rw[Bb]at this;rw[this,H,Aa (by decide),q];cases h
end
end Y
namespace Y
section
variable{R:List GF}{F:Type}
variable{l:AS}{op:BinOp}{cst:Bool}{c:C}{a b:Int}{k:IntKind}{ys:List c.D}{S:St}{K:U->Option F}
theorem FI{x}(h:S.one x=some l):(S.fg R).one (x.er R)=some (AS.fg R l):=by unfold St.one at h;split at h;rename_i l' j;cases h;simp[Lv.St.one,M7 j,En.fg,AJ,Bb];cases h
theorem Qx{x}{u}(h:S.sc x=some u):(S.fg R).sc (x.er R)=some u.fg:=by unfold St.sc AHS at h;split at h;rename_i o l' j;cases h;simp[Lv.St.sc,M7 j,En.fg,AJ,Bb,AS.fg,Lv.AHS];cases h
theorem VE{x}{n}(h:S.nat x=some n):(S.fg R).nat (x.er R)=some n:=by unfold St.nat at h;split at h;rename_i u j;simp[Lv.St.nat,Qx j];cases u<;>simp[Aag]at h<;>subst h<;>rfl;cases h
theorem AY0{k}{a b}{c}(h:eqU k a b=some c):eqT k a.fg b.fg=some c:=by cases k<;>cases a<;>cases b<;>simp only[eqU]at h<;>first|cases h;done|exact h
theorem AKA:∀{ks:List Kd} {as j:List U} {c:Bool},ACx ks as j=some c->T5 ks (as.map U.fg) (j.map U.fg)=some c
 | [],[],[],c,h=>h| [],[],b::j,c,h=>by simp[ACx]at h| [],a::as,j,c,h=>by cases j<;>simp[ACx]at h
 |k::ks,[],j,c,h=>by cases j<;>simp[ACx]at h
 |k::ks,a::as,[],c,h=>by simp[ACx]at h|k::ks,a::as,b::j,c,h=>by simp[ACx]at h;split at h;rename_i x y q B;cases h;simp[AJ,T5,AY0 q,AKA B];cases h
theorem AAD:∀{ls:List AS} {us:List U},Xn ls=some us->Lv.Xn (ls.map (AS.fg R))=some (us.map U.fg)
 | [],us,h=>by cases h;rfl
 |l::ls,us,h=>by
  cases l with
  |t x=>simp[Xn]at h;split at h;rename_i q j;cases h;simp[AJ,AS.fg,Lv.Xn,AAD j,As];cases h
  |_=>simp[Xn]at h
theorem APg{cst}{p} [Decidable p]{x:Option F}{r}(h:gdc cst p x=some r):p/\x=some r:=by
 cases cst with
 |true=>simp only[gdc]at h;split at h<;>simp_all|false=>exact SA h
theorem AWp{r}(h:AY8 cst op k a b K=some r):∃u,eZ op k a b=some (U.fg u)/\K u=some r:=by
 cases op<;>simp[AY8]at h<;>first
  |exact⟨_,rfl,h⟩|(obtain⟨j,h⟩:=APg h;exact⟨_,by simp only[eZ];rw[Aa j];rfl,h⟩)
  |cases h
theorem AVI{r}(h:shU cst op k a b K=some r):∃u,AHT op k a b=some (U.fg u)/\K u=some r:=by
 cases op<;>simp only[shU]at h<;>first
  |cases h;done
  |(obtain⟨j,h⟩:=APg h;exact⟨_,by simp only[AHT];rw[Aa j];rfl,h⟩)
theorem AVi n :(U.u8 (toB n)).fg=.int .u8 (IntKind.u8.wrap n):=by simp[U.fg,AN5]
theorem AYm{r}(h:byU op a b K=some r):∃u,eZ op .u8 a b=some (U.fg u)/\K u=some r/\AWs op=false:=by
 cases op<;>simp[byU]at h<;>first
  |cases h;done
  |exact⟨_,by rw[AVi];rfl,h,rfl⟩|exact⟨_,rfl,h,rfl⟩
theorem uk{j}:iI op (.int k a) (.int j b)=if AWs op=true then AHT op k a b else if k=j then eZ op k a b else none:=by cases op<;>rfl
theorem AWE{x y}{r}(h:AYh cst op x y K=some r):∃u,iI op x.fg y.fg=some (U.fg u)/\K u=some r:=by unfold AYh at h;split at h;rename_i k a E b;split at h;rename_i B;obtain⟨u,j,q⟩:=AVI h;exact⟨u,by show iI op (.int k a) (.int E b)=_;rw[uk,AY B];exact j,q⟩;rename_i B;split at h;rename_i H;split at h;cases h;obtain⟨u,j,q⟩:=AWp h;exact⟨u,by show iI op (.int k a) (.int E b)=_;rw[uk,Aa B,AY H];exact j,q⟩;cases h;rename_i k a b;split at h;rename_i B;obtain⟨u,j,q⟩:=AVI h;exact⟨u,by show iI op (.int k a) (.int .u8 b.toNat)=_;rw[uk,AY B];exact j,q⟩;cases h;rename_i a b;obtain⟨u,j,q,G⟩:=AYm h;exact⟨u,by show iI op (.int .u8 a.toNat) (.int .u8 b.toNat)=_;rw[uk,Aa (by simp[G]),AY rfl];exact j,q⟩;rename_i a b;split at h;obtain⟨j,h⟩:=SA h;exact⟨_,by show (if a.length+b.length<=QL then some (T.str (a++b)) else none)=some (U.fg (.str (a++b)));rw[AY j];rfl,h⟩;exact⟨_,rfl,h⟩;exact⟨_,rfl,h⟩;cases h;cases h
theorem AFF{b}{r}(h:eqK op b K=some r):∃u,pe op b=some (U.fg u)/\K u=some r:=by
 cases op<;>simp[eqK]at h<;>first
  |cases h;done
  |exact⟨_,rfl,h⟩
theorem fC{d β:Type}{f:d->β}{xs:List d}(h:xs.isEmpty=false):∃y ys,xs.map f=y::ys:=by
 cases xs with
 |nil=>simp at h|cons x xs=>exact⟨_,_,rfl⟩
theorem AW1{K}{r:F}(h:S.XS l K=some r):∃b,(S.fg R).XS (AS.fg R l)=some b/\K b=some r:=by unfold St.XS at h;split at h;exact⟨true,rfl,h⟩;rename_i s c xs;obtain⟨j,h⟩:=SA h;obtain⟨y,ys,E⟩:=fC (f:=enc c) j;exact⟨false,by simp[AS.fg,E,Lv.St.XS],h⟩;rename_i q;simp only[AS.fg,Lv.St.XS,Kj];split at h;rename_i B;rw[B];exact⟨true,rfl,h⟩;rename_i c xs B;rw[B];obtain⟨j,h⟩:=SA h;obtain⟨y,ys,E⟩:=fC (f:=enc c) j;exact⟨false,by simp[As,AS.fg,U.fg,E],h⟩;cases h;cases h
theorem AYi{c}{x y}{r}(h:S.bin cst c op x y K=some r):∃u,(S.fg R).bin c op (x.fg R) (y.fg R)=some (U.fg u)/\K u=some r:=by unfold St.bin at h;split at h;split at h;exact AWE h;cases h;split at h;exact AFF h;cases h;split at h;obtain⟨b,j,q⟩:=AW1 (R:=R) h;obtain⟨u,B,E⟩:=AFF q;rename_i l;exact⟨u,by show (match (S.fg R).XS (AS.fg R l) with|some b=>pe op b|none=>none)=_;rw[j];exact B,E⟩;cases h;split at h;split at h;rename_i G H j q;split at h;rename_i b I;obtain⟨u,B,E⟩:=AFF h;refine⟨u,?_,E⟩;simp[En.fg,Lv.St.bin,AAD j,AAD q,AKA I,B];cases h;cases h;cases h
theorem AZz{op}{x}{r}(h:unU op x K=some r):∃u,unT op x.fg=some (U.fg u)/\K u=some r:=by
 unfold unU at h;split at h;cases op<;>simp at h<;>first|cases h;done|exact⟨_,rfl,h⟩
 cases op<;>simp only at h<;>first|cases h;done|(split at h;cases h;exact⟨_,rfl,h⟩)
 cases h
theorem ATK k  n :(mkInt k n).fg=.int k (k.wrap n):=by cases k<;>simp[mkInt,AVi]<;>rfl
theorem ALr:∀(n:Nat) (x:tD n),Wf (.st n)=true->(AaK n x).all flat=true|0,x,_=>rfl|1,x,h=>absurd h (by decide)|2,x,_=>rfl|3,x,_=>rfl|4,x,_=>rfl|5,x,_=>rfl|6,x,h=>absurd h (by decide)|7,x,h=>absurd h (by decide)|8,x,h=>absurd h (by decide)|9,x,_=>rfl|10,x,_=>rfl|11,x,h=>absurd h (by decide)|12,x,h=>absurd h (by decide)|13,x,h=>absurd h (by decide)|14,x,h=>absurd h (by decide)|15,x,_=>rfl|16,x,h=>absurd h (by decide)|17,x,h=>absurd h (by decide)|_+18,x,_=>rfl
theorem ALq{c}(h:Wf c=true) x :(enc c x).all flat=true:=by
 cases c with
 |l c=>cases h
 |m=>cases h
 |st n=>exact ALr n x h|un n=>cases h
 |_=>rfl
theorem KH(h:Wf c=true)(xs:List c.D):Ho (xs.map (enc c))=true:=by grind[Ho,List.all_map,List.all_eq_true,ALq]
theorem AXW{fl:Bool}{S':St}(h:RT c fl S l=some (S',ys)):Lv.RT c.size fl (S.fg R) (AS.fg R l)=some (S'.fg R,ys.map (enc c))/\Ba S S':=by
 unfold RT at h;split at h;rename_i s;split at h;rename_i xs j;cases h;have y:C.u=c:=by simp only[Rw.as]at j;split at j;rename_i y;exact y;cases j
 subst y;have:=iE j;simp[AS.fg,U.fg,Lv.RT,C.size,if_true,<-this,Rw.fg];exact⟨rfl,Ba.refl _⟩;cases h;cases h;exact⟨rfl,Ba.refl _⟩;rename_i s J xs;split at h;rename_i G;split at h;rename_i I j;cases h;have y:J=c:=by simp only[Rw.as]at j;split at j;rename_i y;exact y;cases j
 subst y;have:=iE j;simp only[AS.fg,Lv.RT,KH G,and_self,if_true,<-this,Rw.fg];exact⟨trivial,Ba.refl _⟩;cases h;cases h;rename_i q sub;simp[AS.fg,Lv.RT,Kj];split at h;rename_i x j;rw[j];split at h;rename_i w H;split at h;rename_i I E;have L:eOf c.size x.fg=true:=by cases x<;>simp[content]at H<;>subst H<;>simp[U.fg,eOf];simp only[Rw.sub,Rw.as]at E;split at E;rename_i y;subst y;simp;cases E
 have B:=iE E;rw[AVQ]at B;simp[As,AS.fg,W6 H,L,if_true,B];cases fl with
 |true=>simp only[if_true]at h ⊢;split at h;rename_i G;cases h;rw[AY (KH G _)];exact⟨rfl,Ba.refl _⟩;cases h
 |false=>simp only[BP,if_false]at h ⊢;cases h;rw[XV];exact⟨rfl,Ba.out _ _⟩
 cases h;cases h;cases h;cases h
theorem APh{e}{x:Option F}{r:F}(h:gdo e x=some r):(∀a b,e=some (a,b)->a=b)/\x=some r:=by
 cases e with
 |none=>exact⟨by intros;contradiction,h⟩
 |some p=>obtain⟨a,b⟩:=p;obtain⟨j,q⟩:=SA h;grind
theorem AAf{S':St}{b:U}{n:Nat}{e:Option (Nat×Nat)}(h:Tv c S l=some (S',b,n,e))(Q:∀a b,e=some (a,b)->a=b):Lv.Tv c.size (S.fg R) (AS.fg R l)=some (S'.fg R,b.fg,n)/\Ba S S':=by
 unfold Tv at h;split at h;cases h;exact⟨rfl,Ba.refl _⟩;rename_i q sub;simp[AS.fg,Lv.Tv,Kj];split at h;rename_i x X;rw[X];split at h;rename_i w H;split at h;rename_i ys y;cases h;have E:eOf c.size x.fg=true:=by cases x<;>simp[content]at H<;>subst H<;>simp[U.fg,eOf];simp only[Rw.as]at y;split at y;rename_i B;subst B;simp;cases y
 have I:=iE y;have G:toEnd sub (ys.map (enc c)).length=true:=by
  cases sub with
  |none=>rfl|some p=>obtain⟨lo,m⟩:=p;have:=Q _ _ rfl;simp[toEnd,this]
 simp only[As,AS.fg,W6 H,I];rw[AY ⟨E,G⟩,XV,ae];refine⟨?_,Ba.out _ _⟩;rw[AAB,<-dS,Af];cases h;cases h;cases h;rename_i q i j Y xs;split at h;rename_i B;subst B;split at h;rename_i S1 J;cases h;obtain⟨L,O⟩:=AKm (R:=R) J;simp only[AS.fg,Lv.Tv,if_true,L,U.fg,Af];exact⟨trivial,O⟩;cases h;cases h;cases h
theorem AHr{b u}(h:AV4 c b ys=some u):u.fg=ALT c.size b.fg (ys.map (enc c)):=by unfold AV4 at h;split at h;grind[U.fg,ALT];next j=>cases h;cases b<;>simp[U.fg,ALT];exact(j _ _ rfl).elim
end
end Y
theorem QK{d β}(f:d->β):∀(cs ls:List d) (o:Nat),ES (ls.map f) o (cs.map f)=(ES ls o cs).map f
 | [],ls,o=>by cases ls<;>rfl
 |c::cs,ls,o=>by simp[AJ,ES];rw[<-IW,QK f cs]
theorem oS{d} t :∀(cs ls:List d) (o b:Nat),o<=b->b<o+cs.length->ES (ls.set b t) o cs=ES ls o cs
 | [],ls,o,b,q,j=>by simp at j;omega|c::cs,ls,o,b,q,j=>by simp[ES];by_cases h:b=o;subst h;rw[List.set_set];rw[List.set_comm _ _ h];exact oS t cs _ _ _ (by omega) (by simp at j;omega)
namespace Y
section
variable{R:List GF}{F:Type}
theorem s9(r:CN)(i:Nat):∀(j:Nat) (us:List U),(K4 r i j us).map (AS.fg R)=Lv.K4 r i j (us.map U.fg)|_,[]=>rfl|j,u::us=>by simp only[K4,AJ,Lv.K4,tC,s9 r i (j+1) us]
theorem uh{c}{xs}{i}{x}(h:at? xs i=some x):(xs.map (enc c))[i.toNat]?=some (enc c x):=AYf (enc c) h
theorem Qs{S:St}{n}{l}{K:List AS->Option F}{r}(h:S.load n l K=some r):∃ls,(S.fg R).load n (AS.fg R l)=some (ls.map (AS.fg R))/\K ls=some r:=by unfold St.load at h;split at h;grind[AS.fg,Lv.St.load,Pw,List.length_map,AHp,List.map_take,List.map_drop];rename_i q i j;simp[AS.fg,Lv.St.load,Kj];split at h;rename_i c xs G;rw[G];obtain⟨x,B,h⟩:=YG h;split at h;rename_i y;refine⟨_,?_,h⟩;have E:=uh B;simp[As,AS.fg,U.fg,E,Fw,Af,y,if_true,s9,C8,Cp];cases h;cases h;rename_i s cs;split at h;rename_i y;refine⟨_,?_,h⟩;simp only[AS.fg,Lv.St.load,Af,y,if_true,AE];rw[<-C8,DU,DU];congr 1;funext u;exact(tC _ _).symm;cases h;cases h
theorem Vg:∀ls:List AS,Lv.I6 (ls.map (AS.fg R))=I6 ls
 | []=>rfl|l::ls=>by
  have j:=Vg ls;cases l with
  |t x=>cases x<;>first|rfl|exact j
  |und=>rfl|_=>exact j
theorem nd b o n  l :Lv.JH b o n (AS.fg R l)=JH b o n l:=by grind[Lv.JH,JH,Ma,Sw,Nat.ble,Nat.le_of_ble_eq_true,decide_eq_false_iff_not,Nat.ble_eq_true_of_le,Nat.blt]
def AEm:List T->List (Nat×Nat)->List T|row,[]=>row|row,(_,b)::hs=>AEm (row.set b .top) hs
theorem AEo:∀(j:List (Nat×Nat)) (row:List T),(AEm row j).length=row.length| [],row=>rfl|(a,b)::j,row=>by simp only[AEm,AEo j,List.length_set]
theorem cK i :∀(j:List (Nat×Nat)) (X:List (List T)) (k:Nat),(∀p∈j,p.1=i)->(Om X j)[k]?=if k=i then (X[i]?).map (λrow=>AEm row j) else X[k]?
 | [],X,k,h=>by grind[Om,AEm]
 |(a,b)::j,X,k,h=>by have q:a=i:=h (a,b) (by simp);subst q;simp[Om];rw[cK a j _ k (λp y=>h p (by simp[y]))];simp[aN,if_true];split;cases X[a]? <;> rfl;rfl
theorem fO j  ts :∀(q:List (Nat×Nat)) (row:List T),(∀p∈q,j<=p.2/\p.2<j+ts.length)->ES (AEm row q) j ts=ES row j ts
 | [],row,h=>rfl|(a,b)::q,row,h=>by simp[AEm];rw[fO j ts q _ (λp y=>h p (by simp[y]))];have:=h (a,b) (by simp);exact oS _ _ _ _ _ this.1 this.2
theorem mr{i j n}:∀{q:List (Nat×Nat)},OR i j n q->(∀p∈q,p.1=i)/\(∀p∈q,j<=p.2/\p.2<j+n)
 | [],_=>⟨by simp,by simp⟩|(a,b)::q,h=>by obtain⟨B,E,y⟩:=h;obtain⟨G,H⟩:=mr y;grind
theorem AVY{n:Nat}{ls:List AS}{S S':St}{ls':List AS}(h:af n S ls=some (S',ls')):Lv.af n (S.fg R) (ls.map (AS.fg R))=some (S'.fg R,ls'.map (AS.fg R))/\Ba S S':=by grind[af,Lv.af,Nat.blt_eq,Si,Ba.refl]
theorem ANy{S}{n}{p}{cs}{K:St->Option F}{r}(h:S.Tj n p cs K=some r) :
 ∃S',(S.fg R).Tj n (AS.fg R p) (cs.map (AS.fg R))=some (S'.fg R)/\Ba S S'/\K S'=some r:=by
 unfold St.Tj at h;split at h;rename_i id o;split at h;rename_i S1 E X;obtain⟨Y,J⟩:=AVY (R:=R) X;split at h;cases h;rename_i ht;dsimp at h;split at h;rename_i ls hl;split at h;rename_i y;refine⟨_,?_,(J.trans (Ba.kill _ _)).trans (Ba.QW _ _ _),h⟩;simp[AS.fg,Lv.St.Tj,Y,Vg,ht,BP,if_false,Af];rw[MQ (nd id o E.length),Pw,hl];simp[As,Af,y,if_true];rw[WD,N5 (nd id o E.length),QK];cases h;cases h;cases h;rename_i q i j;split at h;rename_i S1 us X;obtain⟨Y,J⟩:=MU (R:=R) X;simp only[AS.fg,Lv.St.Tj,Y,Kj];split at h;rename_i c xs hx;rw[hx];obtain⟨x,L,h⟩:=YG h;split at h;rename_i y;split at h;rename_i x' B;refine⟨_,?_,(J.trans (Ba.Bk _ _ _)).trans (Ba.kill _ _),h⟩;have Z:=uh L;simp[As,AS.fg,U.fg,Z,Fw,Af,y,if_true,AE];rw[<-MQ (TU q),Gv];congr 2;simp only[AS.fg,U.fg];rw[IW,Jj B,QK];cases h;cases h;rename_i c xs I hx;rw[hx];obtain⟨x,L,h⟩:=YG h;split at h;rename_i y;split at h;rename_i x' B;obtain⟨hh,h⟩:=@SA _ _ (ga i.toNat j us.length I) _ _ h;obtain⟨hr,G⟩:=mr hh;refine⟨_,?_,(J.trans (Ba.Bk _ _ _)).trans (Ba.kill _ _),h⟩;have Z:=uh L;have O:=cK i.toNat I (xs.map (enc c)) i.toNat hr;rw[AY rfl,Z]at O;simp[As]at O;simp only[As,AS.fg,O,AEo,Qj];have hl2:j+(us.map U.fg).length<=c.size:=by rw[Af,<-bC c x];exact y
 rw[AY hl2,<-MQ (TU q),Gv];congr 3;simp only[AS.fg,U.fg];have h7:ES (AEm (enc c x) I) j (us.map U.fg)=enc c x':=by rw[fO _ _ _ _ (by rw[Af];exact G),Jj B,Fw,QK]
 rw[h7];congr 1;congr 1;apply GN;intro k;have hlt:i.toNat<xs.length:=(RZ L).2.2.1;have H:i.toNat<(Om (xs.map (enc c)) I).length:=(AO.1 O).1;rw[Eb,A0,Eb];by_cases Q:i.toNat=k;subst Q;simp[if_true,hlt,H,As];rw[Aa Q,Aa Q,cK i.toNat I _ k hr,Aa (λh=>Q h.symm),A0];cases h;cases h;cases h;cases h;cases h
def erP(R:List GF)(p:Nat×Nat×YO):Nat×Nat×Opd:=(p.1,p.2.1,p.2.2.er R)
theorem qR{S}:∀{ps:List (Nat×Nat×YO)} {ls ls':List AS},OI S ls ps=some ls'->Lv.OI (S.fg R) (ls.map (AS.fg R)) (ps.map (erP R))=some (ls'.map (AS.fg R))
 | [],ls,ls',h=>by cases h;rfl
 |(o,n,x)::ps,ls,ls',h=>by simp[OI]at h;split at h;rename_i e q;split at h;rename_i j;have:=qR (ps:=ps) h;simp only[AJ,erP,Lv.OI,M7 q,En.fg,Af,Vg];rw[AY j,QK];exact this;cases h;cases h
def erQ(R:List GF)(p:Nat×YO):Nat×Opd:=(p.1,p.2.er R)
theorem AOZ{c}{n}:∀{ps:List (Nat×YO)} {S S':St} {xs j:List c.D},bsK c n S xs ps=some (S',j) ->
 Lv.bsK c.size n (S.fg R) (xs.map (enc c)) (ps.map (erQ R))=some (S'.fg R,j.map (enc c))/\Ba S S'
 | [],S,S',xs,j,h=>by cases h;exact⟨rfl,Ba.refl _⟩
 |(i,x)::ps,S,S',xs,j,h=>by simp[bsK]at h;split at h;rename_i e J;split at h;rename_i I;split at h;rename_i S1 us q;obtain⟨B,E⟩:=MU (R:=R) q;split at h;rename_i y L;obtain⟨G,H⟩:=AOZ (ps:=ps) h;simp only[AJ,erQ,Lv.bsK,M7 J,En.fg,Af];rw[AY I,B];dsimp;rw[<-Jj L,<-IW];exact⟨G,E.trans H⟩;cases h;cases h;cases h;cases h
theorem AOa{c}{n}{z}:∀{ps:List (Nat×YO)} {S S':St} {ys:List c.D} (pre:List (List T)),bsL c n S ps=some (S',ys)->ADN pre.length n ps=true->pre.length<=n ->
 Lv.bsK c.size n (S.fg R) (pre++List.replicate (n-pre.length) z) (ps.map (erQ R))=some (S'.fg R,pre++ys.map (enc c))/\Ba S S'
 | [],S,S',ys,pre,h,j,Q=>by cases h;simp[ADN,beq_iff_eq]at j;simp only[Bb,Lv.bsK,j,E7,List.replicate_zero];exact⟨trivial,Ba.refl _⟩
 |(i,x)::ps,S,S',ys,pre,h,j,Q=>by
  simp[ADN,AD,beq_iff_eq]at j;obtain⟨rfl,j⟩:=j;simp[bsL]at h;split at h;rename_i e O;split at h;rename_i L;split at h;rename_i S1 us B;obtain⟨E,G⟩:=MU (R:=R) B;split at h;rename_i y S2 Z Y J;cases h;have q:(pre++[enc c y]).length=pre.length+1:=by simp
  obtain⟨H,I⟩:=AOa (z:=z) (ps:=ps) (pre++[enc c y]) J (by rw[q];exact j) (by rw[q];omega);simp only[AJ,erQ,Lv.bsK,M7 O,En.fg,Af];rw[AY L,E];dsimp;rw[<-Jj Y];have X:(pre++List.replicate (n-pre.length) z).set pre.length (enc c y)=(pre++[enc c y])++List.replicate (n-(pre++[enc c y]).length) z:=by
   rw[List.set_append_right _ _ (Aj _),E7,q];have:n-pre.length=(n-(pre.length+1))+1:=by omega
   rw[this,J2];simp
  rw[X];refine⟨?_,G.trans I⟩;simpa[erQ] using H;cases h;cases h;cases h;cases h
theorem QD{S}{len}{lo hi}{K:Nat->Nat->Option F}{r}(h:range S len lo hi K=some r) :
 ∃a b,(S.fg R).range len (lo.map (YO.er R)) (hi.map (YO.er R))=some (a,b)/\K a b=some r/\∀{d:Type} (xs:List d),xs.length=len->part lo hi xs a b=(xs.drop a).take (b-a):=by unfold range at h;grind[part,Lv.St.range,Lv.St.ATL,SA,VE,List.take_of_length_le]
theorem Zd:∀(q:List (Nat×Nat)) (X:List (List T)),(Om X q).length=X.length| [],_=>rfl|(i,j)::q,X=>by rw[Om,Zd q];simp[KN]
theorem WO{S:St}{c}{l}(h:S.wide c l=true)(y:(∃s j xs,l=.vw s j xs)\/(∃q sub,l=.al q sub)\/l=.t .nil):(S.fg R).wide c.size (AS.fg R l)=true:=by rcases y with ⟨s,j,xs,rfl⟩|⟨q,sub,rfl⟩|rfl;simp[St.wide,decide_eq_true_eq]at h;subst h;simp[AS.fg,Lv.St.wide];simp[St.wide]at h;simp[AS.fg,Lv.St.wide,Kj];split at h;rename_i x B;rw[B];simp[As,AS.fg];cases x<;>simp[U.fg,eOf];simp[decide_eq_true_eq]at h;subst h;simp;grind[AS.fg,eOf];cases h;rfl
theorem AML{off}{p q}(h:OX off p=some q):Lv.OX off (AS.fg R p)=some (AS.fg R q):=by
 cases p<;>simp[OX]at h<;>first
  |cases h;done
  |(cases h;simp[AS.fg,Lv.OX,Cp])
theorem AS1 p :Lv.St.T0 (AS.fg R p)=T0 p:=by cases p<;>rfl
theorem AYp{l}{c}(h:l.AYn=some c):c.fg=AS.fg R l/\(AS.fg R l).plain=true:=by unfold AS.AYn at h;split at h<;>first|cases h;done|(cases h;exact⟨rfl,rfl⟩)
theorem qM:∀{es:List En} {cs:List Cap},ud es=some cs->((es.map (En.fg R)).all λe=>Lv.ADO e.sh&&e.cs.length==1&&e.cs.all Lv.AS.plain)=true/\(es.map (En.fg R)).flatMap Lv.Ent.cs=cs.map Cap.fg
 | [],cs,h=>by cases h;exact⟨rfl,rfl⟩
 |e::es,cs,h=>by unfold ud at h;split at h;rename_i j;cases j;rename_i l y j;cases j;split at h;rename_i c q B E;cases h;obtain⟨G,H⟩:=qM E;obtain⟨I,J⟩:=AYp (R:=R) B;constructor;rw[AJ,List.all_cons,G];simp[En.fg,Lv.ADO,J];simp[AJ,List.flatMap_cons,H,En.fg,Bb,List.singleton_append,I];cases h;cases h
end
end Y
namespace Y
section
variable{R:List GF}{F:Type}
def zsC(c:C):List T:=match AEv c with|some z=>enc c z|none=>[]
theorem AHn{c}{z}(h:AEv c=some z):zsC c=enc c z:=by rw[zsC,h]
def YOp.er:YOp R->XOp|.mv d x=>.mv d (x.er R)|.as d x=>.as d (x.er R)|.pick d c a b=>.pick d (c.er R) (a.er R) (b.er R)|.alloc d zs=>.alloc d (zs.map U.fg)|.box d x=>.box d (x.er R)|.build d zs ps=>.build d (zs.map U.fg) (ps.map (erP R))|.CF d n c ps=>.CF d n (zsC c) (ps.map (erQ R))|.ld d n x=>.ld d n (x.er R)|.st n x v=>.st n (x.er R) (v.er R)|.chk d x=>.chk d (x.er R)|.bin d c op x y=>.bin d c op (x.er R) (y.er R)|.un d op x=>.un d op (x.er R)|.cvI d k x=>.cvI d k (x.er R)|.OK d x=>.OK d (x.er R)|.RA d x=>.RA d (x.er R)|.O0 d n caps=>.O0 d (xr R n) (caps.map (YO.er R))|.T6 d c n=>.T6 d (zsC c) (n.er R) (n.er R)|.sub d c x lo hi=>.sub d c.size (x.er R) (lo.map (YO.er R)) (hi.map (YO.er R))|.Xl d x lo hi=>.Xl d (x.er R) (lo.map (YO.er R)) (hi.map (YO.er R))|.fa d off x=>.fa d off (x.er R)|.fld d off n x=>.fld d off n (x.er R)|.ia d c x i=>.ia d c.size (x.er R) (i.er R)|.ix d x i=>.ix d (x.er R) (i.er R)|.ext d x i=>.ext d (x.er R) i|.call d g _ _ args=>.call d g.x (args.map (YO.er R))|.Eh d x ms args=>.Eh d (x.er R) ms (args.map (YO.er R))|.len d x=>.len d (x.er R)|.lens d x=>.lens d (x.er R)|.app d c fl x y=>.app d c.size fl (x.er R) (y.er R)|.UA d c x n=>.UA d (zsC c) (x.er R) (n.er R)|.cpy d c x y=>.cpy d c.size (x.er R) (y.er R)|.mm d m x y=>.mm d m (x.er R) (y.er R)|.mmk d=>.mmk d|.WT d x k=>.WT d (x.er R) (k.er R)|.VD x k v=>.VD (x.er R) (k.er R) (v.er R)|.WU d x=>.WU d (x.er R)|.bad d=>.bad d|.drop ds=>.drop ds|.SL ns=>.SL (ns.map λp=>(p.1,p.2.size))
def Plain(o:YOp R)(S:St)(K:St->Option F)(r:F):Prop:=∃S',Lv.ev o.er (S.fg R)=some (S'.fg R)/\Ba S S'/\K S'=some r
theorem Cv{o:YOp R}{S S1:St}{d:Nat}{sh:Sh}{cs:List AS}{K:St->Option F}{r:F}(h:IU S1 d sh cs K=some r)(E:Ba S S1)(B:Lv.ev o.er (S.fg R)=(S1.fg R).Eo d ⟨sh,cs.map (AS.fg R)⟩):Plain o S K r:=by obtain⟨S',j,q,y⟩:=gv (R:=R) h;exact⟨S',B.trans j,E.trans q,y⟩
variable{S:St}{K:St->Option F}{r:F}
theorem AKh{d:Nat}{x:YO}(h:ev (.mv d x:YOp R) S K=some r):Plain (.mv d x:YOp R) S K r:=by simp[ev]at h;split at h;rename_i e j;exact Cv h (Ba.refl _) (by simp[YOp.er,Lv.ev,M7 j,En.fg]);cases h
theorem ATX{d:Nat}{x:YO}(h:ev (.as d x:YOp R) S K=some r):Plain (.as d x:YOp R) S K r:=by simp[ev]at h;split at h;rename_i e B;split at h;rename_i S1 cs j;obtain⟨q,y⟩:=Si (R:=R) j;exact Cv h y (by simp[YOp.er,Lv.ev,M7 B,En.fg,q]);cases h;cases h
theorem zH{d:Nat}{c a b:YO}(h:ev (.pick d c a b:YOp R) S K=some r):Plain (.pick d c a b:YOp R) S K r:=by simp[ev]at h;split at h;rename_i t ea eb q y B;rcases AHv h with ⟨rfl,j⟩|⟨rfl,j⟩;exact Cv j (Ba.refl _) (by simp[YOp.er,Lv.ev,Qx q,M7 y,M7 B,U.fg,En.fg,if_true]);exact Cv j (Ba.refl _) (by simp[YOp.er,Lv.ev,Qx q,M7 y,M7 B,U.fg,En.fg,BP,if_false]);cases h
theorem na{d:Nat}{zs:List U}(h:ev (.alloc d zs:YOp R) S K=some r):Plain (.alloc d zs:YOp R) S K r:=by simp[ev]at h;obtain⟨S',j,q,y⟩:=nQ (R:=R) h;refine⟨S',?_,q,y⟩;rw[<-j];simp[YOp.er,Lv.ev,Lv.Qt,DU];rfl
theorem AG4{d:Nat}{x:YO}(h:ev (.box d x:YOp R) S K=some r):Plain (.box d x:YOp R) S K r:=by simp[ev]at h;split at h;rename_i e G;split at h;rename_i S1 cs j;obtain⟨q,y⟩:=AWK (R:=R) j;split at h;cases h;rename_i I;obtain⟨S',H,B,E⟩:=nQ (R:=R) h;refine⟨S',?_,y.trans B,E⟩;simp[YOp.er,Lv.ev,M7 G,En.fg,q,Vg,Af];grind[N5,Lv.Fb,Lv.Gb,Zv,Zu,Lv.Qt];cases h;cases h
theorem nc{d:Nat}{zs:List U}{ps:List (Nat×Nat×YO)}(h:ev (.build d zs ps:YOp R) S K=some r):Plain (.build d zs ps:YOp R) S K r:=by simp[ev]at h;split at h;rename_i ls j;have:=qR (R:=R) j;rw[DU]at this;refine Cv h (Ba.refl _) ?_;simp[YOp.er,Lv.ev,DU];rw[show (Lv.AS.t∘U.fg)=(AS.fg R∘AS.t) from rfl,this];cases h
theorem dE{d n:Nat}{c:C}{ps:List (Nat×YO)}(h:ev (.CF d n c ps:YOp R) S K=some r):Plain (.CF d n c ps:YOp R) S K r:=by
 simp[ev]at h;split at h;rename_i z E;split at h;rename_i y;split at h;rename_i S1 xs j;have q:Lv.bsK c.size n (S.fg R) (rowsOf n (enc c z)) (ps.map (erQ R))=some (S1.fg R,xs.map (enc c))/\Ba S S1:=by
  split at j;next B=>have:=AOa (R:=R) (z:=enc c z) [] j B (Nat.zero_le _);simpa[rowsOf] using this
  have:=AOZ (R:=R) j;rw[GB]at this;exact this
 refine Cv h q.2 ?_;simp[YOp.er,Lv.ev,AHn E,Qj];rw[AY y,q.1];rfl;cases h;cases h;cases h
theorem ATb{d:Nat}{n:Option Nat}{x:YO}(h:ev (.ld d n x:YOp R) S K=some r):Plain (.ld d n x:YOp R) S K r:=by simp[ev]at h;split at h;rename_i p q;obtain⟨ls,j,h⟩:=Qs (R:=R) h;grind[Cv,Ba.refl,YOp.er,Lv.ev,FI];cases h
theorem ATc{n:Nat}{x v:YO}(h:ev (.st n x v:YOp R) S K=some r):Plain (.st n x v:YOp R) S K r:=by simp[ev]at h;split at h;rename_i p e G E;split at h;rename_i B;obtain⟨S',j,q,y⟩:=ANy (R:=R) h;refine⟨S',?_,q,y⟩;simp only[YOp.er,Lv.ev,FI G,M7 E,En.fg,Af];rw[AY B,j];cases h;cases h
theorem AG5{d:Nat}{x:YO}(h:ev (.chk d x:YOp R) S K=some r):Plain (.chk d x:YOp R) S K r:=by simp[ev]at h;grind[Cv,Ba.refl,YOp.er,Lv.ev,FI,AS1]
theorem AG3{d:Nat}{c:Cls}{op:BinOp}{x y:YO}(h:ev (.bin d c op x y:YOp R) S K=some r):Plain (.bin d c op x y:YOp R) S K r:=by simp[ev]at h;split at h;rename_i ex ey j q;obtain⟨u,B,h⟩:=AYi (R:=R) h;exact Cv h (Ba.refl _) (by simp[YOp.er,Lv.ev,M7 j,M7 q,B];rfl);cases h
theorem ATd{d:Nat}{op:UnOp}{x:YO}(h:ev (.un d op x:YOp R) S K=some r):Plain (.un d op x:YOp R) S K r:=by simp[ev]at h;split at h;rename_i a j;obtain⟨u,q,h⟩:=AZz h;exact Cv h (Ba.refl _) (by simp[YOp.er,Lv.ev,Qx j,q];rfl);cases h
theorem AG7{d:Nat}{k:IntKind}{x:YO}(h:ev (.cvI d k x:YOp R) S K=some r):Plain (.cvI d k x:YOp R) S K r:=by simp[ev]at h;grind[Cv,Ba.refl,YOp.er,Lv.ev,VE,AS.fg,ATK]
theorem zA{d:Nat}{x:YO}(h:ev (.OK d x:YOp R) S K=some r):Plain (.OK d x:YOp R) S K r:=by simp[ev]at h;split at h;rename_i s j;exact Cv h (Ba.refl _) (by simp[YOp.er,Lv.ev,Qx j,U.fg];rfl);cases h
theorem y9{d:Nat}{x:YO}(h:ev (.RA d x:YOp R) S K=some r):Plain (.RA d x:YOp R) S K r:=by simp[ev]at h;split at h;rename_i l y;split at h;rename_i w G;split at h;rename_i j E;have q:=R6 (R:=R) G;rw[iE E]at q;refine Cv h (Ba.refl _) ?_;have B:bytesOf (j.map (enc .u))=some j:=AAk j;simp[YOp.er,Lv.ev,FI y,q,B];rfl;cases h;cases h;cases h
theorem zD{d n:Nat}{caps:List YO}(h:ev (.O0 d n caps:YOp R) S K=some r):Plain (.O0 d n caps:YOp R) S K r:=by simp[ev]at h;split at h;rename_i es B;split at h;rename_i cs y;obtain⟨j,q⟩:=qM (R:=R) y;refine Cv h (Ba.refl _) ?_;simp only[YOp.er,Lv.ev,dK B];rw[AY j,q];rfl;cases h;cases h
theorem zE{d:Nat}{c:C}{n:YO}(h:ev (.T6 d c n:YOp R) S K=some r):Plain (.T6 d c n:YOp R) S K r:=by simp[ev]at h;split at h;grind[SA,Cv,Ba.refl,YOp.er,Lv.ev,VE,AHn,Qj,rowsOf,AS.fg,U.fg,List.map_replicate];cases h
theorem zI{d:Nat}{x:YO}{lo hi:Option YO}(h:ev (.Xl d x lo hi:YOp R) S K=some r):Plain (.Xl d x lo hi:YOp R) S K r:=by simp[ev]at h;split at h;rename_i s y;obtain⟨a,b,j,h,q⟩:=QD (R:=R) h;rw[q s rfl]at h;exact Cv h (Ba.refl _) (by simp[YOp.er,Lv.ev,Qx y,U.fg,j];rfl);cases h
theorem APT{q:CN}{sub:Option (Nat×Nat)}{w:Rw}{c:C}{xs:List c.D}(h:S.elems (.al q sub)=some w)(j:w.as c=some xs):(S.fg R).elems (.al q sub)=some (xs.map (enc c)):=by have:=R6 (R:=R) h;rw[iE j]at this;exact this
theorem AHC{d:Nat}{c:C}{x:YO}{lo hi:Option YO}(h:ev (.sub d c x lo hi:YOp R) S K=some r):Plain (.sub d c x lo hi:YOp R) S K r:=by
 simp[ev]at h;split at h;rename_i l G;split at h;rename_i H;split at h;rename_i q sub;have j:=WO (R:=R) H (.inr (.inl ⟨_,_,rfl⟩));split at h;rename_i w I;split at h;next xs J=>obtain⟨a,b,B,h,_⟩:=QD (R:=R) h;have E:=APT (R:=R) I J;have y:=FI (R:=R) G;simp[AS.fg]at j y;refine Cv h (Ba.refl _) ?_;simp[YOp.er,Lv.ev,y,j,if_true,E,Af,B];cases sub with|none=>rfl|some p=>rfl
 cases h;cases h;rename_i s L xs;have j:=WO (R:=R) H (.inl ⟨_,_,_,rfl⟩);obtain⟨a,b,B,h,E⟩:=QD (R:=R) h;rw[E xs rfl]at h;have y:=FI (R:=R) G;simp[AS.fg]at j y;refine Cv h (Ba.refl _) ?_;simp[YOp.er,Lv.ev,y,j,if_true,Lv.St.elems,Af,B,AJ,Bb,AS.fg,C8,Cp];obtain⟨a,b,B,h,_⟩:=QD (R:=R) h;have j:=WO (R:=R) H (.inr (.inr rfl));have y:=FI (R:=R) G;simp[AS.fg,U.fg]at j y;refine Cv h (Ba.refl _) ?_;simp[YOp.er,Lv.ev,y,j,if_true,Lv.St.elems,AT,B,AJ,Bb,AS.fg,U.fg];cases h;cases h;cases h
theorem ATY{d off:Nat}{x:YO}(h:ev (.fa d off x:YOp R) S K=some r):Plain (.fa d off x:YOp R) S K r:=by simp[ev]at h;split at h;rename_i p j;split at h;rename_i q y;exact Cv h (Ba.refl _) (by simp only[YOp.er,Lv.ev,FI j,AML y];rfl);cases h;cases h
theorem AG9{d off:Nat}{n:Option Nat}{x:YO}(h:ev (.fld d off n x:YOp R) S K=some r):Plain (.fld d off n x:YOp R) S K r:=by simp[ev]at h;split at h;rename_i cs q;split at h;rename_i j;refine Cv h (Ba.refl _) ?_;simp[YOp.er,Lv.ev,M7 q,En.fg,Af,j,if_true,C8,Cp];cases h;cases h
theorem ATZ{d:Nat}{c:C}{x i:YO}(h:ev (.ia d c x i:YOp R) S K=some r):Plain (.ia d c x i:YOp R) S K r:=by
 simp[ev]at h;split at h;rename_i l n I J;split at h;rename_i O;split at h;rename_i q sub;have j:=WO (R:=R) O (.inr (.inl ⟨_,_,rfl⟩));split at h;next H xs X=>obtain⟨y,G,h⟩:=YG h;have L:=R6 (R:=R) X;have E:=FI (R:=R) I;simp[AS.fg]at j E L;have B:=RZ G;refine Cv h (Ba.refl _) ?_;simp[YOp.er,Lv.ev,E,VE J,L,Rw.fg,Af];rw[AY ⟨j,B.1,B.2.1⟩];cases sub with
 |none=>rfl|some p=>obtain⟨lo,m⟩:=p;simp[AJ,Bb,AS.fg];congr 5;have:=B.1;omega
 split at h;split at h;rename_i H xs Z Y;obtain⟨y,G,h⟩:=YG h;have E:=FI (R:=R) I;simp[AS.fg]at j E;have B:=RZ G;refine Cv h (Ba.refl _) ?_;simp only[YOp.er,Lv.ev,E,VE J,Lv.St.elems,Kj,Y,As,AS.fg,Lv.content,Lv.K6,Zd,Af];rw[AY ⟨j,B.1,B.2.1⟩];rfl;cases h;cases h;rename_i s H xs;have j:=WO (R:=R) O (.inl ⟨_,_,_,rfl⟩);obtain⟨y,G,h⟩:=YG h;have E:=FI (R:=R) I;simp[AS.fg]at j E;have B:=RZ G;refine Cv h (Ba.refl _) ?_;simp only[YOp.er,Lv.ev,E,VE J,Lv.St.elems,Af];rw[AY ⟨j,B.1,B.2.1⟩];have Q:(xs.map (enc H)).getD n.toNat []=(cells H y).map U.fg:=by rw[BB,uh G,DN,Fw]
 rw[Q];rfl;cases h;cases h;cases h
theorem ATa{d:Nat}{x i:YO}(h:ev (.ix d x i:YOp R) S K=some r):Plain (.ix d x i:YOp R) S K r:=by
 simp[ev]at h;split at h;rename_i s n B q;obtain⟨y,E,h⟩:=YG h;have j:=RZ E;refine Cv h (Ba.refl _) ?_;simp only[YOp.er,Lv.ev,Qx B,U.fg,VE q];rw[AY ⟨j.1,j.2.1⟩];have:s.getD n.toNat 0=y:=by rw[BB,j.2.2.2.1,DN]
 rw[this];rfl;cases h
theorem AG8{d:Nat}{x:YO}{i:Nat}(h:ev (.ext d x i:YOp R) S K=some r):Plain (.ext d x i:YOp R) S K r:=by simp[ev]at h;split at h;rename_i s;split at h;rename_i ns cs v E;split at h;rename_i n G;split at h;rename_i B;split at h;rename_i S1 ls q;obtain⟨j,y⟩:=Si (R:=R) q;refine Cv h y ?_;simp[YOp.er,YO.er,Lv.ev,ZV,E,As,Ent.fg,G,Af,B,if_true];rw[C8,Cp,uc]at j;rw[j];cases h;cases h;cases h;cases h;cases h
theorem zB{d:Nat}{x:YO}(h:ev (.lens d x:YOp R) S K=some r):Plain (.lens d x:YOp R) S K r:=by simp[ev]at h;split at h;rename_i s j;exact Cv h (Ba.refl _) (by simp[YOp.er,Lv.ev,Qx j,U.fg];rfl);cases h
theorem AHA{d:Nat}{x:YO}(h:ev (.len d x:YOp R) S K=some r):Plain (.len d x:YOp R) S K r:=by simp[ev]at h;split at h;rename_i l y;split at h;rename_i c xs q;have j:=R6 (R:=R) q;exact Cv h (Ba.refl _) (by simp[YOp.er,Lv.ev,FI y,j,Rw.fg,Af];rfl);rename_i q;have j:=R6 (R:=R) q;exact Cv h (Ba.refl _) (by simp[YOp.er,Lv.ev,FI y,j,Rw.fg,AT];rfl);cases h;cases h
theorem y7{d:Nat}{c:C}{fl:Bool}{x y:YO}(h:ev (.app d c fl x y:YOp R) S K=some r):Plain (.app d c fl x y:YOp R) S K r:=by simp[ev]at h;split at h;rename_i lx ly O Q;split at h;rename_i S1 ys j;obtain⟨q,B⟩:=AXW (R:=R) j;split at h;rename_i S2 b n e E;obtain⟨J,h⟩:=APh h;obtain⟨G,H⟩:=AAf (R:=R) E J;obtain⟨I,h⟩:=SA h;split at h;rename_i u L;refine Cv h (B.trans H) ?_;simp[YOp.er,Lv.ev,FI O,FI Q,q,G,Af];rw[AY I,<-AHr L];rfl;cases h;cases h;cases h;cases h
theorem y8{d:Nat}{c:C}{x n:YO}(h:ev (.UA d c x n:YOp R) S K=some r):Plain (.UA d c x n:YOp R) S K r:=by
 simp[ev]at h;split at h;rename_i lx k z J H L;obtain⟨j,h⟩:=SA h;split at h;rename_i S2 b m e q;obtain⟨G,h⟩:=APh h;obtain⟨y,B⟩:=AAf (R:=R) q G;obtain⟨E,h⟩:=SA h;split at h;rename_i u I;refine Cv h B ?_;simp[YOp.er,Lv.ev,FI J,VE H,AHn L,Qj];rw[AY j];try dsimp
 rw[y];try dsimp
 rw[AY E];have:=AHr I;rw[GB]at this;simp[rowsOf,<-this,AJ,Bb,AS.fg];cases h;cases h;cases h
theorem AG6{d:Nat}{c:C}{x y:YO}(h:ev (.cpy d c x y:YOp R) S K=some r):Plain (.cpy d c x y:YOp R) S K r:=by
 simp[ev]at h;split at h;rename_i q ly hx hy;split at h;rename_i O B w X J;split at h;rename_i ys xs hys j;split at h;rename_i E;obtain⟨hne,h⟩:=SA h;have Y:O=c:=by simp only[Rw.as]at j;split at j;rename_i E;exact E;cases j
 subst Y;have Z:B=xs:=by simp[Rw.as]at j;simpa using j
 subst Z;have Q:=R6 (R:=R) J;rw[iE hys]at Q;have h3:=FI (R:=R) hx;simp[AS.fg]at h3;have H:(S.fg R).wide O.size (AS.fg R ly)=true:=by refine WO E.1 ?_;unfold St.elems at J;split at J;exact .inr (.inl ⟨_,_,rfl⟩);exact .inl ⟨_,_,_,rfl⟩;exact .inr (.inr rfl);cases J
 have G:(B.map (enc O)).isEmpty=false:=by cases B<;>simp_all
 have I:=FI (R:=R) hy;generalize AS.fg R ly=L at I Q H;refine Cv h ((Ba.Bk _ _ _).trans (Ba.kill _ _)) ?_;simp only[YOp.er,Lv.ev,h3,I,Kj,X,As,AS.fg,U.fg,Q];rw[AY ⟨trivial,H,KH E.2 _,KH E.2 _,G⟩,<-MQ (TU q),Gv];simp[AS.fg,U.fg,Dc,C8,Cp,Af,AJ,Bb];cases h;cases h;cases h;cases h
theorem AKg{d:Nat}{m:Bool}{x y:YO}(h:ev (.mm d m x y:YOp R) S K=some r):Plain (.mm d m x y:YOp R) S K r:=by simp[ev]at h;split at h;rename_i k a E b j q;split at h;rename_i B;exact Cv h (Ba.refl _) (by simp[YOp.er,Lv.ev,Qx j,Qx q,U.fg];rw[AY B];rfl);cases h;cases h
theorem nM{x:YO}{q:CN}{ks:List (Int×Int)}(h:S.SJ x=some (q,ks)):(S.fg R).SJ (x.er R)=some (q,ks):=by unfold St.SJ at h;split at h;rename_i E j;split at h;rename_i y B;cases h;have:=FI (R:=R) j;grind[AS.fg,Lv.St.SJ,Kj,U.fg];cases h;cases h
theorem AHB{d:Nat}(h:ev (.mmk d:YOp R) S K=some r):Plain (.mmk d:YOp R) S K r:=by simp[ev]at h;exact Cv h (Ba.refl _) (by simp[YOp.er,Lv.ev];rfl)
theorem zC{d:Nat}{x k:YO}(h:ev (.WT d x k:YOp R) S K=some r):Plain (.WT d x k:YOp R) S K r:=by simp[ev]at h;split at h;rename_i q ks n j y;exact Cv h (Ba.refl _) (by simp[YOp.er,Lv.ev,nM j,Qx y,U.fg];rfl);cases h
theorem zF{d:Nat}{x:YO}(h:ev (.WU d x:YOp R) S K=some r):Plain (.WU d x:YOp R) S K r:=by simp[ev]at h;split at h;rename_i q ks j;exact Cv h (Ba.refl _) (by simp[YOp.er,Lv.ev,nM j];rfl);cases h
theorem zG{x k v:YO}(h:ev (.VD x k v:YOp R) S K=some r):Plain (.VD x k v:YOp R) S K r:=by simp[ev]at h;split at h;rename_i q ks n m j y B;refine⟨_,?_,(Ba.Bk _ _ _).trans (Ba.kill _ _),h⟩;simp[YOp.er,Lv.ev,nM j,Qx y,Qx B,U.fg];rw[<-MQ (TU q),Gv];rfl;cases h
theorem AKC{o:YOp R}(h:ev o S K=some r):∃S',Ba S S'/\K S'=some r/\∀N:Lv.St->Prop,N (S'.fg R)->opK K8 o.er (S.fg R) N:=by
 have pl:Plain o S K r->∃S',Ba S S'/\K S'=some r/\∀N:Lv.St->Prop,N (S'.fg R)->opK K8 o.er (S.fg R) N:=λ⟨S',j,q,y⟩=>⟨S',q,y,λN hN=>.inl ⟨_,j,hN⟩⟩
 cases o with
 |mv=>exact pl (AKh h)|as=>exact pl (ATX h)|pick=>exact pl (zH h)|alloc=>exact pl (na h)|box=>exact pl (AG4 h)|build=>exact pl (nc h)|CF=>exact pl (dE h)|ld=>exact pl (ATb h)|st=>exact pl (ATc h)|chk=>exact pl (AG5 h)|bin=>exact pl (AG3 h)|un=>exact pl (ATd h)|cvI=>exact pl (AG7 h)|OK=>exact pl (zA h)|RA=>exact pl (y9 h)|O0=>exact pl (zD h)|T6=>exact pl (zE h)|sub=>exact pl (AHC h)|Xl=>exact pl (zI h)|fa=>exact pl (ATY h)|fld=>exact pl (AG9 h)|ia=>exact pl (ATZ h)|ix=>exact pl (ATa h)|ext=>exact pl (AG8 h)|len=>exact pl (AHA h)|lens=>exact pl (zB h)|app=>exact pl (y7 h)|UA=>exact pl (y8 h)|cpy=>exact pl (AG6 h)|mm=>exact pl (AKg h)|mmk=>exact pl (AHB h)|WT=>exact pl (zC h)|VD=>exact pl (zG h)|WU=>exact pl (zF h)|bad=>simp[ev]at h|drop Q=>exact pl ⟨_,by simp[YOp.er,Lv.ev,ACt],Ba.JT _ _,h⟩|SL ns=>exact pl ⟨_,by simp[YOp.er,Lv.ev,yi],Ba.TR _ _,h⟩|call d g fs I args=>simp[ev]at h;split at h;rename_i es G;obtain⟨S1,vs,cs,outs,S',j,q,y,B,E⟩:=AAq (Al.of I) h;refine⟨S',B,E,λN hN=>.inr ⟨d,g.x,es.map (En.fg R),S1,vs,_,cs,outs,_,?_,j,q,y,hN⟩⟩;simp[YOp.er,Lv.GP,dK G];cases h
 |Eh d x ms args=>
  simp[ev]at h;split at h;rename_i n caps es H G;split at h;rename_i g J;split at h;rename_i L;obtain⟨S1,vs,cs,outs,S',j,q,y,B,E⟩:=AAq (Al.nil _) h;refine⟨S',B,E,λN hN=>.inr ⟨d,g.x,_,S1,vs,_,cs,outs,_,?_,j,q,y,hN⟩⟩;have O:xr R n=g.x:=by rw[xr,J]
  simp only[YOp.er,Lv.GP,FI H,dK G,AS.fg,O];rw[AY (by rw[g.ms,L])];simp only[Dc,DU,AE,Prod.mk.injEq,true_and,List.append_cancel_left_eq];apply List.map_congr_left;intro c _;simp[Function.comp,En.fg,AJ,Bb,di];cases h;cases h;cases h
end
end Y
namespace Y
section
variable{R:List GF}{F:Type}
variable{b:Bool}{v:Nat}{X:Option F}{S:St}{K:St->Option F}
def B4.er:B4 R->T4|.nil=>.nil|.op i g sf o rest=>.op i g sf o.er rest.er|.dr ds rest=>.dr ds rest.er|.nl ns rest=>.nl (ns.map λp=>(p.1,p.2.size)) rest.er|.both _ a b=>.both a.er b.er
def Hp.er:Hp R->PY|.skip=>.skip|.region ops _=>.region (ops.map λp=>(p.1,p.2.er)) []|.W9 r _=>.W9 r.er []|.seq a b=>.seq a.er b.er|.join _ a b=>.seq a.er b.er|.cond c _ _ t e=>.cond c [] [] t.er e.er|.block id b=>.block id b.er|.loop _ b=>.loop b.er|.exit id=>.exit id|.ret=>.ret|.scope b=>.scope b.er|.or a b=>.or a.er b.er|.dead=>.dead|.ATl _ b=>.loop b.er|.VM a b _ d p c e=>.VM (a.map λp=>(p.1,p.2.er)) (b.map λp=>(p.1,p.2.er)) [] d p c e
theorem AYv(o:YOp R):o.er.mE=o.mE:=by cases o<;>rfl
theorem oV{o:YOp R}{r}(h:OC o S K=some r):∃S',Lv.OC o.er (S.fg R)=some (S'.fg R)/\Ba S S'/\K S'=some r:=by unfold OC at h;rw[Lv.OC,AYv];split at h;rename_i d B;obtain⟨S',j,q,y⟩:=gv (R:=R) h;rw[B];exact⟨S',j,q,y⟩;grind[Ba.refl]
theorem AUz{s}{e x}:∀{l:List (Nat×Ent)},get l s=some x->e.fg R=x.fg R->fgE R (reE s e l)=fgE R l
 | [],h,_=>rfl|(k,y)::l,h,q=>by
  simp[get]at h;simp[reE];cases j:Nat.beq k s with
  |true=>rw[j]at h;cases h;simp[fgE,AJ,q]
  |false=>rw[j]at h;have:=AUz (l:=l) h q;grind[fgE]
theorem AKI{s}{e}:∀{l:List (Nat×Ent)} {k:Nat} {y:Ent},get (reE s e l) k=some y->y=e\/get l k=some y
 | [],k,y,h=>.inr h|(j,x)::l,k,y,h=>by
  simp[reE]at h;cases B:Nat.beq j s with
  |true=>grind[get,Nat.beq]
  |false=>
   rw[B]at h;simp[get]at h ⊢;cases q:Nat.beq j k with
   |true=>rw[q]at h;exact .inr h|false=>rw[q]at h;exact AKI h
theorem AZG{s:Nat}(h:get S.tm s=some ⟨.one,[.t (.bool b)],v⟩):(S.lit s b).fg R=S.fg R/\Ba S (S.lit s b):=by refine⟨?_,by simp[St.lit],λk e q y=>?_,λ_ _ h _=>h,rfl⟩;simp[St.fg,St.lit];have:=AUz (R:=R) (e:=⟨.one,[.t (.bool b)],S.nv⟩) h rfl;rw[this];rcases AKI q with rfl|j;grind;exact j
def Gd(R:List GF)(g:Option (Nat×Bool))(o:YOp R)(S:Lv.St)(N:Lv.St->Prop):Prop:=
 ∃b,Lv.wanted S g=some b/\((b=true/\opK K8 o.er S N)\/(b=false/\∃S',Lv.OC o.er S=some S'/\N S'))
theorem uQ{s:Nat}{w:Bool}(h:get S.tm s=some ⟨.one,[.t (.bool b)],v⟩):Lv.wanted (S.fg R) (some (s,w))=some (b==w):=by simp[Lv.wanted,ZV,h];rfl
theorem AEs{s}{w}(h:get S.tm s=some ⟨.one,[.und],v⟩):Lv.wanted (S.fg R) (some (s,w))=some false:=by simp[Lv.wanted,ZV,h];rfl
theorem Vk{S:St}{s:Nat}{w b:Bool}{v:Nat}{o:YOp R}{f:Option F}{K:St->Option F}{r:F}{P:Lv.St->(Lv.St->Prop)->Prop}(y:get S.tm s=some ⟨.one,[.t (.bool b)],v⟩)(x:Bool)(G:x=(b==w))
 (h:nh x o (S.lit s b) f K=some r) (H:f=some r->∃S',Ba (S.lit s b) S'/\K S'=some r/\∀N:Lv.St->Prop,N (S'.fg R)->P ((S.lit s b).fg R) N) :
 ∃S',Ba S S'/\K S'=some r/\∀N:Lv.St->Prop,N (S'.fg R)->∃b,Lv.wanted (S.fg R) (some (s,w))=some b/\((b=true/\P (S.fg R) N)\/(b=false/\∃S',Lv.OC o.er (S.fg R)=some S'/\N S')):=by
 obtain⟨I,E⟩:=AZG (R:=R) y;cases x with
 |true=>obtain⟨S',j,q,B⟩:=H h;refine⟨S',E.trans j,q,λN hN=>⟨_,uQ y,.inl ⟨G.symm,?_⟩⟩⟩;grind
 |false=>obtain⟨S',j,q,B⟩:=oV (R:=R) h;refine⟨S',E.trans q,B,λN hN=>⟨_,uQ y,.inr ⟨G.symm,_,?_,hN⟩⟩⟩;rwa[I]at j
theorem AY1{g}{o:YOp R}{r:F}(h:evg g o S K=some r) :
 ∃S',Ba S S'/\K S'=some r/\∀N:Lv.St->Prop,N (S'.fg R)->Gd R g o (S.fg R) N:=by
 unfold evg at h;split at h;obtain⟨S',y,B,E⟩:=AKC h;exact⟨S',y,B,λN hN=>⟨true,rfl,.inl ⟨rfl,E N hN⟩⟩⟩;rename_i s w;split at h;rename_i b v j;rcases AHv h with ⟨rfl,q⟩|⟨rfl,q⟩
 .exact Vk (P:=opK K8 o.er) j w (by cases w<;>rfl) q λG=>AKC G
 .exact Vk (P:=opK K8 o.er) j (!w) (by cases w<;>rfl) q λG=>AKC G
 rename_i v j;obtain⟨S',y,B,E⟩:=oV (R:=R) h;exact⟨S',B,E,λN hN=>⟨false,AEs j,.inr ⟨rfl,_,y,hN⟩⟩⟩;cases h
theorem vr:∀{ops:List (Option (Nat×Bool)×YOp R)} {S:St} {K:St->Option F} {r:F},evs ops S K=some r ->
 ∃S',Ba S S'/\K S'=some r/\∀N:Lv.St->Prop,N (S'.fg R)->dF K8 (ops.map λp=>(p.1,p.2.er)) (S.fg R) N
 | [],S,K,r,h=>⟨S,Ba.refl _,h,λN hN=>hN⟩|(g,o)::ops,S,K,r,h=>by
  have j:evg g o S (λS'=>evs ops S' K)=some r:=by grind[evs,FY]
  obtain⟨S1,q,y,B⟩:=AY1 j;obtain⟨S2,E,G,H⟩:=vr y;exact⟨S2,q.trans E,G,λN hN=>B _ (H N hN)⟩
theorem AbI(o:YOp R):o.er.wr=o.wr.map (YO.er R):=by cases o<;>rfl
theorem aw l :∀(ks:List PK) (es:List En),Lv.LY (AS.fg R l) (ks.map PK.md) (es.map (En.fg R))=LY l ks es
 | [],es=>by cases es<;>rfl
 |k::ks,[]=>rfl|k::ks,e::es=>by simp[AJ,Lv.LY,LY,uU,En.fg,Ko,Function.comp_def,ANp,aw l ks es]
theorem AWm{l}(h:S.Py l=true):(S.fg R).Py (AS.fg R l)=true:=by unfold St.Py at h;split at h;simp[AS.fg,Lv.St.Py,Pw,Option.isSome_map];exact h;rfl;rename_i s cs;cases cs<;>simp_all[AS.fg,Lv.St.Py];grind[AS.fg,Lv.St.Py,Kj,AWt];rfl;rfl;cases h
theorem AAr{o:YOp R}{S}(j:∀d g fs y args,o≠.call d g fs y args)(q:∀d x ms args,o≠.Eh d x ms args):Lv.GP o.er S=none:=by cases o<;>first|rfl|(exact(j _ _ _ _ _ rfl).elim)|(exact(q _ _ _ _ rfl).elim)
theorem AVA{o:YOp R}{S}{l}(h:Wr o S l=true):Lv.Wr o.er (S.fg R) (AS.fg R l)=true:=by
 simp only[Wr,AD]at h;obtain⟨X,q⟩:=h;unfold Lv.Wr;rw[AWm X,Bool.true_and];have E:(AS.fg R l).CA=l.CA:=Ma l;have gen:(∀d g fs Q args,o≠.call d g fs Q args)->(∀d x ms args,o≠.Eh d x ms args) ->
  (match o.wr with|some y=>(match S.one y with|some lt=>l.CA.isNone||!(match l.CA with|some r=>isR lt.CA r|none=>lt.CA.isNone)|none=>false)|none=>true)=true ->
  (match Lv.GP o.er (S.fg R) with
  |some (_,f,es)=>Lv.LY (AS.fg R l) (FQ f) es|none=>match o.er.wr with
   |some y=>(match (S.fg R).one y with|some lt=>(AS.fg R l).CA.isNone||decide ((AS.fg R l).CA≠lt.CA)|none=>true)
   |none=>true)=true:=by
  intro n1 n2 h;rw[AAr n1 n2,AbI];cases hy:o.wr with
  |none=>rfl|some y=>
   rw[hy]at h;dsimp at h;cases B:S.one y with
   |none=>rw[B]at h;cases h
   |some lt=>rw[B]at h;dsimp at h ⊢;simp only[As,FI B];rw[E,Ma,decide_not,<-AU6];exact h
 cases o with
 |st n x v=>
  dsimp at q;have H:Lv.names (AS.fg R l)=names l:=nP l;generalize AS.fg R l=L at H E ⊢;cases B:S.one x with
  |none=>rw[B]at q;cases q
  |some lp=>
   rw[B]at q;have G:=FI (R:=R) B;simp only[YOp.er,G];cases lp with
   |bp id o=>dsimp at q;show (!(Lv.names L).contains id)=true;rw[H,List.contains_eq_mem,<-V6];exact q
   |ep r0 i j=>dsimp at q;show decide (L.CA≠some r0)=true;rw[E];rw[cP]at q;simpa using q
   |_=>cases q
 |call d g fs Q args=>
  dsimp at q;cases J:S.rds args with
  |none=>rw[J]at q;cases q
  |some es=>rw[J]at q;have G:=aw (R:=R) l g.ps es;generalize AS.fg R l=L at G ⊢;simp[YOp.er,Lv.GP,dK J,g.ms];rw[G];exact q
 |Eh d x ms args=>
  dsimp at q;split at q;rename_i n caps es H Y;split at q;rename_i g Z;split at q;rename_i h7;have hx:xr R n=g.x:=by rw[xr,Z]
  have I:=aw (R:=R) l g.ps (es++caps.map λl=>⟨.one,[l.leaf]⟩);rw[Dc,DU]at I;rw[show (En.fg R∘λl=>(⟨.one,[l.leaf]⟩:En))=((λl=>(⟨Sh.one,[l]⟩:Lv.Ent))∘Cap.fg) from by funext c;simp[Function.comp,En.fg,AJ,Bb,di],<-DU]at I;have O:=FI (R:=R) H;simp[AS.fg,hx]at O;generalize AS.fg R l=L at I ⊢;simp only[YOp.er,Lv.GP,O,dK Y];rw[AY (by rw[g.ms,h7])];dsimp;rw[g.ms,I];exact q;cases q;cases q;cases q
 |_=>exact gen (by intros;simp) (by intros;simp) q
theorem AEF{o:YOp R}{S}:∀{sf:List Nat},LN o S sf=true->Lv.LN o.er (S.fg R) sf=true
 | [],h=>rfl|s::sf,h=>by simp[LN,AD]at h;obtain⟨j,q⟩:=h;simp[Lv.LN,AD];refine⟨?_,AEF q⟩;split at j;rename_i l y;have:=FI (R:=R) y;grind[YO.er,AVA];cases j
theorem vm:∀{a b:List (Option Nat)},ALo a b=true->a=b
 | [],[],_=>rfl|none::r,none::r',h=>by simp[ALo]at h;rw[vm h]|some a::r,some b::r',h=>by simp only[ALo,AD]at h;rw[beq_true h.1,vm h.2]| [],_::_,h=>by cases h
 |none::_,[],h=>by cases h
 |some _::_,[],h=>by cases h
 |none::_,some _::_,h=>by cases h
 |some _::_,none::_,h=>by cases h
theorem AWh{a b}(h:AYz a b=true):a=b:=by cases a<;>cases b<;>first|rfl|(cases h;done)|(simp only[AYz]at h;first|rw[vm h]|rw[beq_true h])
theorem ACw:∀{a b:Option (Nat×Nat)},AJ9 a b=true->a=b
 |none,none,_=>rfl|some (a,b),some (j,q),h=>by simp only[AJ9,AD]at h;rw[beq_true h.1,beq_true h.2]|none,some _,h=>by cases h
 |some _,none,h=>by cases h
theorem dO:∀{a b:CN},CN.is a b=true->a=b
 |.tmp s c,.tmp q j,h=>by grind[CN.is,beq_true]
 |.cell s c,.cell q j,h=>by simp[CN.is]at h;grind[beq_true]
 |.tmp _ _,.cell _ _,h=>by cases h
 |.cell _ _,.tmp _ _,h=>by cases h
theorem ACv{a b}(h:AJ8 a b=true):a=b:=by cases a<;>cases b<;>simp only[AJ8,AD]at h<;>first|(cases h;done)|rw[dO h.1,ACw h.2]|rw[beq_true h]
theorem AJ7:∀{a b:List (Nat×Nat)},AWg a b=true->a=b
 | [],[],_=>rfl|(a,b)::r,(j,q)::r',h=>by simp only[AWg,AD]at h;rw[beq_true h.1.1,beq_true h.1.2,AJ7 h.2]| [],_::_,h=>by cases h
 |_::_,[],h=>by cases h
theorem U1{e}{x:Option e}{r}(h:ifB b x=some r):b=true/\x=some r:=by grind
theorem AE0{x y}{r}(h:agU x y X=some r):x=y/\X=some r:=by
 cases x<;>cases y<;>simp[agU]at h<;>first|(cases h;done)|exact⟨rfl,h⟩|skip
 grind[Uo];grind[Uo];obtain⟨rfl,j⟩:=Uo h;exact⟨rfl,j⟩;obtain⟨rfl,j⟩:=Uo h;exact⟨rfl,j⟩;grind[Uo];grind[Uo]
theorem AHo:∀{x y:List U} {X:Option F} {r:F},AYX x y X=some r->x=y/\X=some r
 | [],[],X,r,h=>⟨rfl,h⟩|a::x,b::y,X,r,h=>by obtain⟨rfl,j⟩:=AE0 h;obtain⟨rfl,q⟩:=AHo j;exact⟨rfl,q⟩
 | [],_::_,_,_,h=>by cases h
 |_::_,[],_,_,h=>by cases h
theorem AOI{c j:C}{xs:List c.D}{ys:List j.D}{r:F}(h:(if h:j=c then eqv xs (h▸ys) X else none)=some r):(⟨c,xs⟩:(c:C)×List c.D)=⟨j,ys⟩/\X=some r:=by grind[Uo]
theorem AV1{x y}{r}(h:AYV x y X=some r):x=y/\X=some r:=by unfold AYV at h;split at h;obtain⟨rfl,j⟩:=AE0 h;exact⟨rfl,j⟩;exact⟨rfl,h⟩;obtain⟨rfl,j⟩:=AE0 h;exact⟨rfl,j⟩;obtain⟨j,E⟩:=U1 h;obtain⟨B,q⟩:=AOI E;cases B;rw[AJ7 j];exact⟨rfl,q⟩;obtain⟨j,h⟩:=U1 h;grind[dO,ACw];obtain⟨j,h⟩:=U1 h;grind[Uo,dO,beq_true];obtain⟨j,E⟩:=U1 h;obtain⟨B,q⟩:=AOI E;cases B;rw[ACv j];exact⟨rfl,q⟩;obtain⟨j,h⟩:=U1 h;obtain⟨rfl,q⟩:=AHo h;rw[ACv j];exact⟨rfl,q⟩;obtain⟨j,h⟩:=U1 h;grind[beq_true];cases h
theorem ub:∀{x y:List AS} {X:Option F} {r:F},AV2 x y X=some r->x=y/\X=some r
 | [],[],X,r,h=>⟨rfl,h⟩|a::x,b::y,X,r,h=>by obtain⟨rfl,j⟩:=AV1 h;obtain⟨rfl,q⟩:=ub j;exact⟨rfl,q⟩
 | [],_::_,_,_,h=>by cases h
 |_::_,[],_,_,h=>by cases h
theorem fy{a b}(h:Nat.blt a b=true):a<b:=by simp[Nat.blt]at h;omega
theorem AEz{v}{P:Nat->Ent->Prop}(hP:∀k e q,P k e->P k q->e=q):∀{x y:List (Nat×Ent)} {X:Option F} {r:F},(∀k e,(k,e)∈x->e.ver<v->P k e)->(∀k e,(k,e)∈y->e.ver<v->P k e)->agE v x y X=some r->fgE R x=fgE R y/\X=some r
 | [],[],X,r,_,_,h=>⟨rfl,h⟩|(k,e)::x,(Q,q)::y,X,r,H,I,h=>by simp[agE]at h;split at h;rename_i O;have:=beq_true O;subst this;split at h;rename_i G;simp only[AD]at G;have:=hP k e q (H k e (BQ ..) (fy G.1)) (I k q (BQ ..) (fy G.2));subst this;obtain⟨B,E⟩:=AEz hP (λk e j=>H k e (Am _ j)) (λk e j=>I k e (Am _ j)) h;exact⟨by unfold fgE at B ⊢;rw[AJ,AJ,B],E⟩;obtain⟨J,h⟩:=U1 h;obtain⟨L,h⟩:=ub h;obtain⟨B,E⟩:=AEz hP (λk e j=>H k e (Am _ j)) (λk e j=>I k e (Am _ j)) h;exact⟨by unfold fgE at B ⊢;rw[AJ,AJ,B];simp[Ent.fg,AWh J,L],E⟩;cases h
 | [],_::_,_,_,_,_,h=>by cases h
 |_::_,[],_,_,_,_,h=>by cases h
theorem AEy{v}{P:Nat->Bx->Prop}(hP:∀k e q,P k e->P k q->e=q):∀{x y:List (Nat×Bx)} {X:Option F} {r:F},(∀k e,(k,e)∈x->e.ver<v->P k e)->(∀k e,(k,e)∈y->e.ver<v->P k e)->agB v x y X=some r->fgB R x=fgB R y/\X=some r
 | [],[],X,r,_,_,h=>⟨rfl,h⟩|(k,e)::x,(O,q)::y,X,r,H,I,h=>by simp[agB]at h;split at h;rename_i L;have:=beq_true L;subst this;split at h;rename_i G;simp only[AD]at G;have:=hP k e q (H k e (BQ ..) (fy G.1)) (I k q (BQ ..) (fy G.2));subst this;obtain⟨B,E⟩:=AEy hP (λk e j=>H k e (Am _ j)) (λk e j=>I k e (Am _ j)) h;exact⟨by unfold fgB at B ⊢;rw[AJ,AJ,B],E⟩;obtain⟨J,h⟩:=ub h;obtain⟨B,E⟩:=AEy hP (λk e j=>H k e (Am _ j)) (λk e j=>I k e (Am _ j)) h;exact⟨by unfold fgB at B ⊢;rw[AJ,AJ,B,J],E⟩;cases h
 | [],_::_,_,_,_,_,h=>by cases h
 |_::_,[],_,_,_,_,h=>by cases h
theorem ADQ{d}{k}{e}:∀{l:List (Nat×d)},(k,e)∈l->fB k l=true
 |(j,x)::l,h=>by
  simp[fB];cases q:Nat.beq j k with
  |true=>rfl|false=>rcases Ae.1 h with h|h;cases h;rw[Kq]at q;cases q;exact ADQ h
theorem SM{d}{k}{e}:∀{l:List (Nat×d)},nU l=true->(k,e)∈l->get l k=some e
 |(j,x)::l,q,h=>by
  simp[nU,AD,BE]at q;simp[get];rcases Ae.1 h with h|h;cases h;rw[Kq];cases y:Nat.beq j k with
  |true=>rw[beq_true y,ADQ h]at q;cases q.1
  |false=>exact SM q.2 h
theorem AYW{A B}{r}(hA:Ba S A)(hB:Ba S B)(h:agS S.nv A B X=some r):A.fg R=B.fg R/\X=some r:=by obtain⟨E,h⟩:=U1 h;simp[AD]at E;obtain⟨⟨⟨J,L⟩,O⟩,Q⟩:=E;obtain⟨H,h⟩:=AEz (R:=R) (P:=λk e=>get S.tm k=some e) (λk e G h y=>by rw[h]at y;exact Option.some.inj y) (λk e j q=>hA.tm k e (SM J j) q) (λk e j q=>hB.tm k e (SM L j) q) h;obtain⟨I,h⟩:=AEy (R:=R) (P:=λk e=>get S.bx k=some e) (λk e G h y=>by rw[h]at y;exact Option.some.inj y) (λk e j q=>hA.bx k e (SM O j) q) (λk e j q=>hB.bx k e (SM Q j) q) h;exact⟨by simp[St.fg,H,I,hA.pin,hB.pin],h⟩
theorem bX:∀{x:B4 R} {S:St} {K:St->Option F} {r:F},evr x S K=some r ->
 ∃S',Ba S S'/\K S'=some r/\∀N:Lv.St->Prop,N (S'.fg R)->runK K8 x.er (S.fg R) N
 |.nil,S,K,r,h=>⟨S,Ba.refl _,h,λN hN=>hN⟩|.dr ds x,S,K,r,h=>by obtain⟨S',q,j,y⟩:=bX (x:=x) h;refine⟨S',(Ba.JT _ _).trans q,j,λN hN=>?_⟩;have:=y N hN;rw[ACt]at this;exact this
 |.nl ns x,S,K,r,h=>by obtain⟨S',q,j,y⟩:=bX (x:=x) h;refine⟨S',(Ba.TR _ _).trans q,j,λN hN=>?_⟩;have:=y N hN;rw[yi]at this;exact this
 |.both n a b,S,K,r,h=>by
  have h:evr a S (λA=>evr b S λB=>agS S.nv A B (K A))=some r:=by
   cases n with
   |zero=>exact h|succ n=>simpa[evr,AHq] using h
  obtain⟨A,I,J,a3⟩:=bX (x:=a) (K:=λA=>evr b S λB=>agS S.nv A B (K A)) h;obtain⟨B,L,O,Q⟩:=bX (x:=b) (K:=λB=>agS S.nv A B (K A)) J;obtain⟨e,j⟩:=AYW (R:=R) I L O;exact⟨A,I,j,λN hN=>⟨a3 N hN,Q N (e▸hN)⟩⟩
 |.op i g sf o x,S,K,r,h=>by
  have safe:∀{S:St},(if LN o S sf=true then ev o S λS'=>S'.G5 λS'=>evr x S' K else none)=some r ->
   ∃S',Ba S S'/\evr x S' K=some r/\∀N:Lv.St->Prop,N (S'.fg R)->(Lv.LN o.er (S.fg R) sf=true/\opK K8 o.er (S.fg R) N):=by
   intro S h;split at h;rename_i hs;obtain⟨S',q,j,y⟩:=AKC h;rw[FY]at j;exact⟨S',q,j,λN hN=>⟨AEF hs,y N hN⟩⟩;cases h
  have key:∃S',Ba S S'/\evr x S' K=some r/\∀N:Lv.St->Prop,N (S'.fg R)->∃b,Lv.wanted (S.fg R) g=some b/\((b=true/\Lv.LN o.er (S.fg R) sf=true/\opK K8 o.er (S.fg R) N)\/(b=false/\∃S',Lv.OC o.er (S.fg R)=some S'/\N S')):=by simp[evr,AY6]at h;split at h;obtain⟨S',q,j,y⟩:=safe h;exact⟨S',q,j,λN hN=>⟨true,rfl,.inl ⟨rfl,y N hN⟩⟩⟩;next s w=>split at h;rename_i b v E;rcases AHv h with ⟨rfl,G⟩|⟨rfl,G⟩;refine Vk (K:=λS'=>evr x S' K) (P:=λS N=>Lv.LN o.er S sf=true/\opK K8 o.er S N) E w (by cases w<;>rfl) (f:=if LN o (S.lit s true) sf=true then ev o (S.lit s true) λS'=>S'.G5 λS'=>evr x S' K else none) ?_ λH=>safe H;simpa[FY] using G;refine Vk (K:=λS'=>evr x S' K) (P:=λS N=>Lv.LN o.er S sf=true/\opK K8 o.er S N) E (!w) (by cases w<;>rfl) (f:=if LN o (S.lit s false) sf=true then ev o (S.lit s false) λS'=>S'.G5 λS'=>evr x S' K else none) ?_ λH=>safe H;simpa[FY] using G;rename_i v E;simp[FY]at h;obtain⟨S',q,j,y⟩:=oV (R:=R) h;exact⟨S',j,y,λN hN=>⟨false,AEs E,.inr ⟨rfl,_,q,hN⟩⟩⟩;cases h
  obtain⟨S1,q,j,y⟩:=key;obtain⟨S2,X,Y,Z⟩:=bX (x:=x) j;exact⟨S2,q.trans X,Y,λN hN=>y _ (Z N hN)⟩
end
end Y
namespace Y
section
variable{R:List GF}{F:Type}
variable{c:Cut}{S S':St}
theorem ATF{s}{l}{x}(h:ATE s l=some x):ATD s x=l:=by
 unfold ATE at h;split at h;cases h;cases h;cases h;next j q y=>cases h;cases s<;>cases x<;>first|rfl|(exact(j _ _ rfl).elim)|(exact(q rfl).elim)|(exact(y _ rfl).elim)
 split at h;cases h;rfl;cases h;split at h;cases h;rfl;cases h;split at h;cases h;split at h;rename_i B;subst B;cases h;rfl;cases h;cases h
theorem tF{s}:∀{ls:List AS} {us:List U},yb s ls=some us->us.map (ATD s)=ls
 | [],us,h=>by cases h;rfl
 |l::ls,us,h=>by simp[yb]at h;split at h;rename_i x xs j q;cases h;rw[AJ,ATF j,tF q];cases h
theorem AYR{a:AL}{ls}{x}(h:a.un ls=some x):a.leaf x=ls:=by
 cases a with
 |val c s=>simp[AL.un]at h;split at h;rename_i us q;simp[AL.leaf];rw[dB h,tF q];cases h
 |num k=>simp[AL.un]at h;split at h;split at h;rename_i j;subst j;cases h;rfl;cases h;cases h
 |al r=>simp[AL.un]at h;split at h;split at h;rename_i j;subst j;rfl;cases h;cases h
theorem AAE:∀{as:List AL} {ls:List AS} {x:TA as},AXk as ls=some x->P6 as x=ls
 | [],ls,x,h=>by
  cases ls with
  |nil=>rfl|cons l ls=>cases h
 | [a],ls,x,h=>AYR h|a::j::as,ls,x,h=>by simp[AXk]at h;split at h;rename_i y z q B;cases h;show a.leaf y++P6 (j::as) z=ls;rw[AYR q,AAE B,CL];cases h
theorem NN{b}{k}:∀{c:Cut} {ls:List AS},QS b k c=false->look b k (seg c ls)=none
 | [],ls,h=>rfl|(j,d,sh,as)::c,ls,h=>by simp[QS]at h;simp[seg,look];split at h;cases h;exact NN h
theorem bc{S}{k}:∀{c:Cut} {ls:List AS},TE S c=some ls->QS false k c=true->∃e,get S.tm k=some e/\look false k (seg c ls)=some (e.sh,e.cs)
 | [],ls,h,j=>by cases j
 |(false,d,sh,as)::c,ls,h,j=>by
  simp[TE]at h;split at h;rename_i e ls' B y;split at h;rename_i q;cases h;simp only[QS]at j;simp only[seg,look];split at j;rename_i E;have H:d=k:=by simpa[Sw] using E
  subst H;refine⟨e,B,?_⟩;rw[Ci q.2,aQ q.1];rename_i E;rw[C4 q.2];exact bc y j;cases h;cases h
 |(true,d,sh,as)::c,ls,h,j=>by simp[TE]at h;split at h;rename_i e ls' B y;split at h;rename_i q;cases h;have G:((true:Bool)==false)=false:=rfl;simp[QS,G,Bv]at j;simp[seg,look,G,Bv];rw[C4 q];exact bc y j;cases h;cases h
theorem ba{S}{k}:∀{c:Cut} {ls:List AS},TE S c=some ls->QS true k c=true->∃e sh,get S.bx k=some e/\look true k (seg c ls)=some (sh,e.cs)
 | [],ls,h,j=>by cases j
 |(true,d,sh,as)::c,ls,h,j=>by
  simp[TE]at h;split at h;rename_i e ls' B y;split at h;rename_i q;cases h;simp only[QS]at j;simp only[seg,look];split at j;rename_i E;have H:d=k:=by simpa[Sw] using E
  subst H;refine⟨e,sh,B,?_⟩;rw[Ci q];rename_i E;rw[C4 q];exact ba y j;cases h;cases h
 |(false,d,sh,as)::c,ls,h,j=>by simp[TE]at h;split at h;rename_i e ls' B y;split at h;rename_i q;cases h;have G:((false:Bool)==true)=false:=rfl;simp[QS,G,Bv]at j;simp only[seg,look,G,Bv];rw[C4 q.2];exact ba y j;cases h;cases h
theorem AKx{q}{a}{v}:∀{l:List (Nat×Ent)},(∀k e,(k,e)∈l->look false k q=some (e.sh,e.cs)\/(look false k q=none/\get a k=some e))->fgE R (oE q a v l)=fgE R l
 | [],_=>rfl|(k,e)::l,h=>by have y:=AKx (v:=v) (l:=l) (λk e E=>h k e (Am _ E));simp only[fgE,oE,AJ]at y ⊢;rw[y];rcases h k e (by simp) with j|⟨j,B⟩;rw[j];rfl;rw[j,B]
theorem AKw{q}{a}{v}:∀{l:List (Nat×Bx)},(∀k e,(k,e)∈l->(∃sh,look true k q=some (sh,e.cs))\/(look true k q=none/\get a k=some e))->fgB R (oD q a v l)=fgB R l
 | [],_=>rfl|(k,e)::l,h=>by have y:=AKw (v:=v) (l:=l) (λk e E=>h k e (Am _ E));simp only[fgB,oD,AJ]at y ⊢;rw[y];rcases h k e (by simp) with ⟨sh,j⟩|⟨j,B⟩;rw[j];rw[j,B]
theorem cU{d}{k}{e}:∀{l:List (Nat×d)},(k,e)∈l->fB k l=true
 |(j,x)::l,h=>by
  simp[fB];cases q:Nat.beq j k with
  |true=>rfl|false=>rcases Ae.1 h with h|h;cases h;exact(beq_false q rfl).elim;exact cU h
theorem tp{c}{a}:∀{l:List (Nat×Ent)} {k:Nat} {e:Ent},AK1 c a l=true->(k,e)∈l->get l k=some e/\(QS false k c=true\/(QS false k c=false/\∃y,get a k=some y/\e.ver=y.ver))
 |(j,x)::l,k,e,h,q=>by simp[AK1,AD,BE]at h;obtain⟨⟨E,G⟩,B⟩:=h;rcases Ae.1 q with q|q;grind[Prod.mk.injEq,get,Nat.beq,Sw,QS,beq_true];obtain⟨H,I⟩:=tp B q;grind[get,Nat.beq,beq_true,cU]
theorem tn{c}{a}:∀{l:List (Nat×Bx)} {k:Nat} {e:Bx},AK0 c a l=true->(k,e)∈l->get l k=some e/\(QS true k c=true\/(QS true k c=false/\∃y,get a k=some y/\e.ver=y.ver))
 |(j,x)::l,k,e,h,q=>by simp[AK0,AD,BE]at h;obtain⟨⟨E,G⟩,B⟩:=h;rcases Ae.1 q with q|q;grind[Prod.mk.injEq,get,Nat.beq,Sw,QS,beq_true];obtain⟨H,I⟩:=tn B q;grind[get,Nat.beq,beq_true,cU]
theorem AOW{a b}(h:Nat.blt a b=true):a<b:=JQ h
theorem ALH{v}:∀{l:List (Nat×Ent)} {k:Nat} {e:Ent},wfE v l=true->get l k=some e->e.ver<v
 |(j,x)::l,k,e,h,q=>by simp only[wfE,AD]at h;simp[get]at q;split at q;cases q;exact AOW h.1;exact ALH h.2 q
theorem ALG{v}:∀{l:List (Nat×Bx)} {k:Nat} {e:Bx},wfB v l=true->get l k=some e->e.ver<v
 |(j,x)::l,k,e,h,q=>by simp only[wfB,AD]at h;simp[get]at q;split at q;cases q;exact AOW h.1;exact ALG h.2 q
structure FU(c:Cut)(S S':St):Prop where
 tm:∀k e,QS false k c=false->get S'.tm k=some e->e.ver<S.nv->get S.tm k=some e
 bx:∀k e,QS true k c=false->get S'.bx k=some e->e.ver<S.nv->get S.bx k=some e
 pin:S'.pin=S.pin
theorem FU.of(h:Ba S S'):FU c S S':=⟨λk e _=>h.tm k e,λk e _=>h.bx k e,h.pin⟩
theorem wA{x}(h:c.fit S S'=some x)(H:FU c S S') :
 (c.st S S' x).fg R=S'.fg R /\
 (∀k e,(k,e)∈S'.tm->look false k (seg c (P6 c.as x))=some (e.sh,e.cs)\/(look false k (seg c (P6 c.as x))=none/\get S.tm k=some e)) /\
 (∀k e,(k,e)∈S'.bx->(∃sh,look true k (seg c (P6 c.as x))=some (sh,e.cs))\/(look true k (seg c (P6 c.as x))=none/\get S.bx k=some e)):=by
 unfold Cut.fit at h;split at h;rename_i Q;obtain⟨w1,Y,s1,X⟩:=Q;split at h;rename_i ls J;rw[AAE h];have hE:∀k e,(k,e)∈S'.tm->look false k (seg c ls)=some (e.sh,e.cs)\/(look false k (seg c ls)=none/\get S.tm k=some e):=by intro k e I;obtain⟨q,j⟩:=tp s1 I;rcases j with j|⟨j,L,B,E⟩;obtain⟨O,y,G⟩:=bc J j;rw[q]at y;cases y;exact .inl G;exact .inr ⟨NN j,H.tm k e j q (by rw[E];exact ALH w1 B)⟩
 have hB:∀k e,(k,e)∈S'.bx->(∃sh,look true k (seg c ls)=some (sh,e.cs))\/(look true k (seg c ls)=none/\get S.bx k=some e):=by intro k e I;obtain⟨q,j⟩:=tn X I;rcases j with j|⟨j,L,B,E⟩;obtain⟨O,sh,y,G⟩:=ba J j;rw[q]at y;cases y;exact .inl ⟨sh,G⟩;exact .inr ⟨NN j,H.bx k e j q (by rw[E];exact ALG Y B)⟩
 refine⟨?_,hE,hB⟩;simp only[St.fg,Cut.st,AAE h];rw[AKx hE,AKw hB,H.pin];cases h;cases h
theorem dM{q}{a}{v}:∀{l l':List (Nat×Ent)},OB l l'=true->(∀k e,(k,e)∈l'->look false k q=some (e.sh,e.cs)\/(look false k q=none/\get a k=some e))->oE q a v l=oE q a v l'
 | [],[],_,_=>rfl| [],_::_,h,_=>by cases h
 |_::_,[],h,_=>by cases h
 |(k,e)::l,(I,G)::l',h,B=>by simp only[OB,AD]at h;obtain⟨j,y⟩:=h;have:=beq_true j;subst this;have H:=dM (v:=v) y (λk e E=>B k e (Am _ E));grind[oE]
theorem dL{q}{a}{v}:∀{l l':List (Nat×Bx)},OB l l'=true->(∀k e,(k,e)∈l'->(∃sh,look true k q=some (sh,e.cs))\/(look true k q=none/\get a k=some e))->oD q a v l=oD q a v l'
 | [],[],_,_=>rfl| [],_::_,h,_=>by cases h
 |_::_,[],h,_=>by cases h
 |(k,e)::l,(I,G)::l',h,B=>by simp only[OB,AD]at h;obtain⟨j,y⟩:=h;have:=beq_true j;subst this;have H:=dL (v:=v) y (λk e E=>B k e (Am _ E));grind[oD]
theorem mR{q:List (Bool×Nat×Sh×List AS)}{a:List (Nat×Ent)}{v k:Nat}(G:look false k q=none):∀{l:List (Nat×Ent)} {y:Ent},get (oE q a v l) k=some y->∃e,get l k=some e/\y=(match get a k with|some B=>B|none=>e)
 |(j,x)::l,y,h=>by
  simp[oE,get]at h ⊢;cases E:Nat.beq j k with
  |true=>grind[beq_true,Option.some.inj]
  |false=>rw[E]at h;exact mR G h
theorem mQ{q:List (Bool×Nat×Sh×List AS)}{a:List (Nat×Bx)}{v k:Nat}(G:look true k q=none):∀{l:List (Nat×Bx)} {y:Bx},get (oD q a v l) k=some y->∃e,get l k=some e/\y=(match get a k with|some B=>B|none=>e)
 |(j,x)::l,y,h=>by
  simp[oD,get]at h ⊢;cases E:Nat.beq j k with
  |true=>grind[beq_true,Option.some.inj]
  |false=>rw[E]at h;exact mQ G h
theorem FU.round{x:TA c.as}(h:Ba (c.st S S x) S'):FU c S S':=by refine⟨λk e G E j=>?_,λk e G E j=>?_,h.pin⟩;have q:=h.tm k e E (LC j);obtain⟨H,y,B⟩:=mR (NN G) q;grind;have q:=h.bx k e E (LC j);obtain⟨H,y,B⟩:=mQ (NN G) q;rw[y]at B;subst B;exact y
theorem sU{y}(h:c.fit S S'=some y)(j:FU c S S')(q:OB S.tm S'.tm=true)(B:OB S.bx S'.bx=true):(c.st S S y).fg R=S'.fg R:=by obtain⟨E,G,H⟩:=wA (R:=R) h j;grind[St.fg,Cut.st,dM,dL]
theorem cX{b}{k}:∀{c:Cut} {ls:List AS},QS b k c=true->∃p,look b k (seg c ls)=some p
 |(j,d,sh,as)::c,ls,h=>by simp[QS]at h;simp only[seg,look];split at h;exact⟨_,rfl⟩;exact cX h
theorem AD7{q:List (Bool×Nat×Sh×List AS)}{a:List (Nat×Ent)}{v k:Nat}{p:Sh×List AS}(E:look false k q=some p):∀{l:List (Nat×Ent)} {y:Ent},get (oE q a v l) k=some y->v<=y.ver
 |(j,z)::l,y,h=>by
  simp[oE,get]at h;cases B:Nat.beq j k with
  |true=>grind[beq_true]
  |false=>rw[B]at h;exact AD7 E h
theorem AD6{q:List (Bool×Nat×Sh×List AS)}{a:List (Nat×Bx)}{v k:Nat}{p:Sh×List AS}(E:look true k q=some p):∀{l:List (Nat×Bx)} {y:Bx},get (oD q a v l) k=some y->v<=y.ver
 |(j,z)::l,y,h=>by
  simp[oD,get]at h;cases B:Nat.beq j k with
  |true=>grind[beq_true]
  |false=>rw[B]at h;exact AD6 E h
theorem Ba.st{x}(I:Ba S S'):Ba S (c.st S S' x):=by
 refine⟨by simp[Cut.st],λk e B E=>?_,λk e B E=>?_,rfl⟩;cases j:QS false k c with
 |false=>
  obtain⟨J,G,q⟩:=mR (NN j) B;cases y:get S.tm k with
  |some L=>rw[y]at q;subst q;rfl|none=>rw[y]at q;subst q;have:=I.tm k _ G E;rw[y]at this;cases this
 |true=>obtain⟨p,H⟩:=cX (ls:=P6 c.as x) j;exact absurd E (Qa.2 (AD7 H B))
 cases j:QS true k c with
 |false=>
  obtain⟨J,G,q⟩:=mQ (NN j) B;cases y:get S.bx k with
  |some L=>rw[y]at q;subst q;rfl|none=>rw[y]at q;subst q;have:=I.bx k _ G E;rw[y]at this;cases this
 |true=>obtain⟨p,H⟩:=cX (ls:=P6 c.as x) j;exact absurd E (Qa.2 (AD6 H B))
theorem AEN{e:Type}:∀(l:List (Nat×Ent)) (K:List (Nat×Ent)->e),AVK l K=K (l.map λp=>(p.1,⟨.one,[],0⟩))| [],K=>rfl|(k,_)::r,K=>AEN r _
theorem AEM{e:Type}:∀(l:List (Nat×Bx)) (K:List (Nat×Bx)->e),AVJ l K=K (l.map λp=>(p.1,⟨[],0⟩))| [],K=>rfl|(k,_)::r,K=>AEM r _
theorem dP{d:Type}(z:d):∀l:List (Nat×d),OB (l.map λp=>(p.1,z)) l=true| []=>rfl|(k,_)::r=>by simp only[AJ,OB,dP z r,Kq,Bool.and_self]
theorem AXX{x:TA c.as}(j:∀k e,(k,e)∈S'.tm->look false k (seg c (P6 c.as x))=some (e.sh,e.cs)\/(look false k (seg c (P6 c.as x))=none/\get S.tm k=some e))
 (q:∀k e,(k,e)∈S'.bx->(∃sh,look true k (seg c (P6 c.as x))=some (sh,e.cs))\/(look true k (seg c (P6 c.as x))=none/\get S.bx k=some e)) :
 c.st S ⟨S'.tm.map λp=>(p.1,⟨.one,[],0⟩),S'.bx.map λp=>(p.1,⟨[],0⟩),[],0⟩ x=c.st S S' x:=by unfold Cut.st;dsimp;rw[dM (dP _ _) j,dL (dP _ _) q]
theorem AZl{d p c e}{K:St->Option F}{r}(h:S.see d p c e K=some r):∃S',(S.fg R).see d p c e=S'.fg R/\Ba S S'/\K S'=some r:=by
 unfold St.see at h;split at h;rename_i b q xs I G;split at h;rename_i E H;rw[uj]at h;obtain⟨x,y,h⟩:=Option.bind_eq_some_iff.1 h;split at h;rename_i q' ys J;refine⟨_,?_,Ba.Bk _ _ _,h⟩;have j:=FI (R:=R) I;simp[YO.er,AS.fg]at j;have B:at2 (xs.map (enc q)) ((xs.map (enc q)).length-1) c=some (.sl q'.size (ys.map (enc q'))):=by rw[List.getLast?_eq_getElem?]at y;simp[at2,Af,A0,y,As,Fw,J,U.fg]
 simp only[Lv.St.see,j,Kj,G,E,As,AS.fg,U.fg,B];rw[AY (FK H),Gv];rfl;cases h;cases h;cases h
theorem E2:∀{x:Hp R} {S:St} {K:Ex->St->Option F} {r:F} {Q:Ex->Lv.St->Prop},I1 x S K=some r->(∀e S',Ba S S'->K e S'=some r->Q e (S'.fg R))->wp K8 x.er (S.fg R) Q
 |.skip,S,K,r,Q,h,hQ=>hQ _ _ (Ba.refl _) h|.region ops FZ,S,K,r,Q,h,hQ=>by obtain⟨S',O,B,G⟩:=vr (show evs ops S _=some r from h);rw[FY]at B;refine G _ ⟨S'.clo 6 (S'.pin++FZ),?_⟩;rw[<-UD];exact hQ _ _ (O.trans (Ba.clean _ _)) B
 |.W9 x FZ,S,K,r,Q,h,hQ=>by obtain⟨S',O,B,G⟩:=bX (show evr x S _=some r from h);rw[FY]at B;refine G _ ⟨S'.clo 6 (S'.pin++FZ),?_⟩;rw[<-UD];exact hQ _ _ (O.trans (Ba.clean _ _)) B
 |.seq a b,S,K,r,Q,h,hQ=>by
  refine E2 (x:=a) (show I1 a S _=some r from h) λe S' q j=>?_;cases e with
  |n=>exact E2 (x:=b) j λe S2 E B=>hQ _ _ (q.trans E) B|x i=>exact hQ _ _ q j|r=>exact hQ _ _ q j
 |.join c a b,S,K,r,Q,h,hQ=>by
  refine E2 (x:=a) (show I1 a S _=some r from h) λe S' q j=>?_;cases e with
  |n=>dsimp at j ⊢;split at j;rename_i x hx;obtain⟨G,Y,Z⟩:=wA (R:=R) hx (FU.of q);rw[AEN,AEM,AS4,FY,AXX Y Z]at j;rw[<-G];refine E2 (x:=b) j λe S2 E B=>hQ _ _ ?_ B;exact(Ba.st q).trans E;cases j
  |x i=>exact hQ _ _ q j|r=>exact hQ _ _ q j
 |.cond c kt ke t e,S,K,r,Q,h,hQ=>by
  simp[I1]at h;split at h;rename_i b hb;have hs:=Qx (R:=R) hb;simp[YO.er,U.fg]at hs;rcases AHv h with ⟨rfl,j⟩|⟨rfl,j⟩;rw[FY]at j;refine⟨true,hs,S.clo 6 (S.pin++kt),?_⟩;rw[AY rfl,<-UD];exact E2 (x:=t) j λe S2 E B=>hQ _ _ ((Ba.clean _ _).trans E) B;rw[FY]at j;refine⟨false,hs,S.clo 6 (S.pin++ke),?_⟩;rw[Aa (by simp),<-UD];exact E2 (x:=e) j λe S2 E B=>hQ _ _ ((Ba.clean _ _).trans E) B;cases h
 |.block id b,S,K,r,Q,h,hQ=>by
  refine E2 (x:=b) (show I1 b S _=some r from h) λe S' q j=>?_;cases e with
  |n=>exact hQ _ _ q j|x i=>dsimp at j ⊢;split at j;rename_i hi;rw[AY hi];exact hQ _ _ q j;next hi=>rw[Aa hi];exact hQ _ _ q j
  |r=>exact hQ _ _ q j
 |.loop c b,S,K,r,Q,h,hQ=>by
  simp[I1]at h;split at h;rename_i x0 J;have key:∀(n:Nat) (x:TA c.as),BK (λL x=>(c.st S S x).G5 λS1=>I1 b S1 λe S'=>match e with
   |.n=>if OB S.tm S'.tm=true/\OB S.bx S'.bx=true then (match c.fit S S' with|some y=>L y|none=>none) else none
   |.x i=>K (.x i) S'|.r=>K .r S') n x=some r->AKZ (wp K8 b.er) n ((c.st S S x).fg R) Q:=by
   intro n;induction n with
   |zero=>intro x h;rw[AKa]at h;cases h
   |succ n ih=>
    intro x h;rw[ED]at h;rw[FY]at h;refine E2 (x:=b) h λe S' q j=>?_;have hS:Ba S (c.st S S x):=Ba.st (Ba.refl S);cases e with
    |n=>dsimp at j ⊢;split at j;rename_i H;split at j;rename_i y hy;rw[<-sU hy (FU.round q) H.1 H.2];exact ih y j;cases j;cases j
    |x i=>exact hQ _ _ (hS.trans q) j|r=>exact hQ _ _ (hS.trans q) j
  refine⟨big,?_⟩;obtain⟨G,_,_⟩:=wA (R:=R) J (FU.of (Ba.refl S));rw[<-G];exact key big x0 h;cases h
 |.exit id,S,K,r,Q,h,hQ=>hQ _ _ (Ba.refl _) h|.ret,S,K,r,Q,h,hQ=>hQ _ _ (Ba.refl _) h|.scope b,S,K,r,Q,h,hQ=>E2 (x:=b) (show I1 b S K=some r from h) hQ|.or a b,S,K,r,Q,h,hQ=>(AZa (show orX (I1 a S K) (I1 b S K)=some r from h)).elim (λh=>.inl (E2 (x:=a) h hQ)) λh=>.inr (E2 (x:=b) h hQ)|.dead,S,K,r,Q,h,hQ=>by cases h
 |.ATl c b,S00,K,r,Q,h,hQ=>by
  refine⟨big+1,?_⟩;refine E2 (x:=b) (show I1 b S00 _=some r from h) λe S I h=>?_;cases e with
  |n=>
   dsimp at h ⊢;split at h;rename_i x0 J;have key:∀(n:Nat) (x:TA c.as),BK (λL x=>(c.st S S x).G5 λS1=>I1 b S1 λe S'=>match e with
    |.n=>if OB S.tm S'.tm=true/\OB S.bx S'.bx=true then (match c.fit S S' with|some y=>L y|none=>none) else none
    |.x i=>K (.x i) S'|.r=>K .r S') n x=some r->AKZ (wp K8 b.er) n ((c.st S S x).fg R) Q:=by
    intro n;induction n with
    |zero=>intro x h;rw[AKa]at h;cases h
    |succ n ih=>
     intro x h;rw[ED]at h;rw[FY]at h;refine E2 (x:=b) h λe S' q j=>?_;have hS:Ba S (c.st S S x):=Ba.st (Ba.refl S);cases e with
     |n=>dsimp at j ⊢;split at j;rename_i H;split at j;rename_i y hy;rw[<-sU hy (FU.round q) H.1 H.2];exact ih y j;cases j;cases j
     |x i=>exact hQ _ _ (I.trans (hS.trans q)) j|r=>exact hQ _ _ (I.trans (hS.trans q)) j
   obtain⟨G,_,_⟩:=wA (R:=R) J (FU.of (Ba.refl S));rw[<-G];exact key big x0 h;cases h
  |x i=>exact hQ _ _ I h|r=>exact hQ _ _ I h
 |.VM a b FZ d p c e,S,K,r,Q,h,hQ=>by obtain⟨S1,O,B,G⟩:=vr (show evs a S _=some r from h);split at B;rename_i id hid;split at B;rename_i bx hb;obtain⟨S2,Y,Z,h6⟩:=vr B;obtain⟨S3,k1,k2,k3⟩:=AZl (R:=R) Z;rw[FY]at k3;have X:=FI (R:=R) hid;refine G _ ⟨⟨id,X,by rw[Pw,hb];rfl⟩,h6 _ ⟨S3.clo 6 (S3.pin++FZ),?_⟩⟩;rw[k1,<-UD];exact hQ _ _ (((O.trans Y).trans k2).trans (Ba.clean _ _)) k3;cases B;cases B
end
end Y
namespace Y
section
variable{R:List GF}{F:Type}
def AaY:C->Bool|.st _=>true|.un _=>true|_=>false
def AAs:List (Bool×C)->Bool| []=>true|(true,_)::r=>AAs r|(false,c)::r=>(!AaY c&&decide (c≠.m))&&AAs r
def ADq:List PK->Bool| []=>true|.f _ l::r=>AAs l&&ADq r|_::r=>ADq r
theorem uu i :∀(l:List (Bool×C)) (x:uV l),AAs l=true->Lv.Q8 i (UC l x)=some ((Q8 i l x).map Cap.fg)
 | [],x,h=>rfl|(true,c)::l,x,h=>by have j:=uu i l x.2 h;simp only[UC,Lv.Q8,Q8,AJ,Cap.fg];rw[j,Fw];rfl
 |(false,c)::l,x,h=>by
  simp[AAs,AD,BE,decide_eq_true_eq]at h;have j:=uu i l x.2 h.2;cases c with
  |st n=>cases h.1.1
  |un n=>cases h.1.1
  |m=>exact(h.1.2 rfl).elim|_=>simp[UC,enc,Lv.Q8,Q8,cells,AJ,j];rfl
theorem AVG c  x :Hz (shC c) (enc c x).length=true:=by rw[Qj];cases c<;>rfl
theorem P4:∀(ks:List PK) (i:Nat) (fs:List Nat) (a:A ks) (S:St),ADq ks=true->fs.map (λn=>(R[n]?).map GF.x)=(fX ks).map some ->
 Lv.initK i (ks.map PK.md) (aVs ks a) (S.fg R)=some ((initK i fs ks a S).fg R)
 | [],i,fs,a,S,_,_=>rfl|k::ks,i,fs,a,S,B,y=>by
  obtain⟨j,E⟩:=a;cases k with
  |v c=>have hE:enc c j=(cells c j).map U.fg:=Fw c j;have q:=P4 ks (i+1) fs E (S.Lg i (shC c) ((cells c j).map (Ew i))) B y;rw[Nc,PQ,<-hE]at q;exact q
  |p c=>have hE:enc c j=(cells c j).map U.fg:=Fw c j;have q:=P4 ks (i+1) fs E (S.Lg i .one [.vp (.old i) (cells c j)]) B y;rw[Nc]at q;simp[AJ,Bb,AS.fg]at q;rw[<-hE]at q;exact q
  |b c=>
   have hE:enc c j=(cells c j).map U.fg:=Fw c j;have q:=P4 ks (i+1) fs E (let S1:=(S.Lg i .one [.bp i 0]).QW i ((cells c j).map (Ew i));⟨S1.tm,S1.bx,i::S1.pin,S1.nv⟩) B y;have e:(let S1:=(S.Lg i .one [.bp i 0]).QW i ((cells c j).map (Ew i));(⟨S1.tm,S1.bx,i::S1.pin,S1.nv⟩:St)).fg R={ S.fg R with tm:=Lv.put (S.fg R).tm i ⟨.one,[.bp i 0]⟩,bx:=Lv.put (S.fg R).bx i ((enc c j).map (Lv.Ew i)),pin:=i::(S.fg R).pin}:=by have G:=WD (R:=R) (S.Lg i .one [.bp i 0]) i ((cells c j).map (Ew i));rw[Nc,PQ,<-hE]at G;have H:=congrArg Lv.St.tm G;have I:=congrArg Lv.St.bx G;simp only[St.fg]at H I ⊢;rw[H,I];rfl
   rw[e]at q;exact q
  |o c=>have hE:enc c j=(cells c j).map U.fg:=Fw c j;have q:=P4 ks (i+1) fs E (S.Lg i (shC c) ((cells c j).map I0)) B y;rw[Nc,V5,<-hE]at q;exact q
  |m c=>
   have hE:enc c j=(cells c j).map U.fg:=Fw c j;have q:=P4 ks (i+1) fs E (let S1:=S.Lg i (shC c) ((cells c j).map I0);⟨S1.tm,S1.bx,i::S1.pin,S1.nv⟩) B y;have e:(let S1:=S.Lg i (shC c) ((cells c j).map I0);(⟨S1.tm,S1.bx,i::S1.pin,S1.nv⟩:St)).fg R={ S.fg R with tm:=Lv.put (S.fg R).tm i ⟨shC c,(enc c j).map Lv.I0⟩,pin:=i::(S.fg R).pin}:=by have G:=Nc (R:=R) S i (shC c) ((cells c j).map I0);rw[V5,<-hE]at G;have H:=congrArg Lv.St.tm G;simp only[St.fg]at H ⊢;rw[H];rfl
   rw[e]at q;have O:Hz (shC c) (enc c j).length=true:=AVG c j;show (if Hz (shC c) (enc c j).length=true then _ else none)=_;rw[AY O];exact q
  |f x l=>
   simp[ADq,AD]at B;cases fs with
   |nil=>simp[fX]at y|cons n fs=>
    simp[fX,AJ,B3]at y;have Q:xr R n=x:=by
     unfold xr;cases J:R[n]? with
     |none=>rw[J]at y;simp at y|some g=>rw[J]at y;simpa using y.1
    have q:=P4 ks (i+1) fs E (S.Lg i .one [.fn n (Q8 i l j)]) B.2 y.2;rw[Nc]at q;have L:Lv.Q8 i (UC l j)=some ((Q8 i l j).map Cap.fg):=uu i l j B.1;show (match Lv.Q8 i (UC l j) with|some ls=>Lv.initK (i+1) _ _ _|none=>none)=_;rw[L];simp[AJ,Bb,AS.fg,Q]at q;exact q
theorem MZ:∀{rs:List IF} {S:St} {K:List (Option Nat)->List AS->Option F} {r:F},Mo rs S K=some r->∃ns ls,Lv.Mo rs (S.fg R)=some (ns,ls.map (AS.fg R))/\K ns ls=some r
 | [],S,K,r,h=>⟨[],[],rfl,h⟩|.tmp t::rs,S,K,r,h=>by simp[Mo]at h;split at h;rename_i e y;split at h;rename_i E;obtain⟨ns,ls,j,q⟩:=MZ h;refine⟨_,_,?_,q⟩;have:=M7 (R:=R) y;simp[YO.er]at this;simp[Lv.Mo,this,j,En.fg,Af,E,if_true,Dc];rfl;cases h;cases h
 |.cell t n::rs,S,K,r,h=>by simp[Mo]at h;split at h;rename_i id o y;obtain⟨ls',j,h⟩:=Qs (R:=R) h;obtain⟨ns,ls,q,B⟩:=MZ h;refine⟨_,_,?_,B⟩;have:=FI (R:=R) y;simp[YO.er,AS.fg]at this j;simp[Lv.Mo,this,j,q,Dc];cases h
 |.bx _::rs,S,K,r,h=>by cases h
 |.vw _ _::rs,S,K,r,h=>by cases h
 |.un _ _::rs,S,K,r,h=>by cases h
theorem tN:∀{ls:List AS},P9 ls=true->Lv.P9 (ls.map (AS.fg R))=true
 | [],_=>rfl|l::ls,h=>by simp[P9,AD]at h;simp[AJ,Lv.P9,AD];refine⟨?_,tN h.2⟩;have j:=h.1;grind[AS.fg,nD]
theorem AXO{rk}{rs}{S}{K:St->List U->Option F}{r}(h:dN rk rs S K=some r):∃S' us,Lv.dN rs (S.fg R)=some (S'.fg R,rk.sh,us.map U.fg)/\K S' us=some r:=by
 unfold dN at h;split at h;rename_i k c t;split at h;rename_i id y;have j:=FI (R:=R) y;simp[YO.er,AS.fg]at j;split at h;rename_i ls Q;split at h;cases h;rename_i L;split at h;rename_i B;split at h;rename_i us G;subst B;refine⟨S,us,?_,h⟩;have E:id∉(S.fg R).pin:=λO=>L (mem_iff.2 O);simp only[Lv.dN,j,Pw,Q,As,NL,PG G];rw[Aa E];rfl;cases h;cases h;cases h;cases h;rename_i k c c2 t r';split at h;rename_i id y;have j:=FI (R:=R) y;simp[YO.er,AS.fg]at j;split at h;rename_i ls Q;split at h;cases h;rename_i L;split at h;rename_i B;split at h;rename_i us G;obtain⟨ns,ls',H,h⟩:=MZ (R:=R) h;split at h;rename_i J;split at h;rename_i S' Y ho;obtain⟨h3,_⟩:=MU (R:=R) ho;subst B;refine⟨S',us++Y,?_,h⟩;have E:id∉(S.fg R).pin:=λO=>L (mem_iff.2 O);rw[J]at H;simp only[Lv.dN,j,Pw,Q,As,NL,PG G,H,h3];rw[Aa E,Dc];rfl;cases h;cases h;cases h;cases h;cases h;cases h;rename_i k c t k';split at h;rename_i B;subst B;split at h;rename_i k'' c' xs y;have j:=FI (R:=R) y;simp[YO.er,AS.fg]at j;split at h;rename_i B;subst B;exact⟨S,_,by simp only[Lv.dN,j,if_true];rfl,h⟩;cases h;rename_i q sub y;have j:=FI (R:=R) y;simp[YO.er,AS.fg]at j;split at h;rename_i x hx;refine⟨_,_,?_,h⟩;simp[Lv.dN,j,Kj,hx,As,AS.fg,XV,AJ,Bb,ae];rfl;cases h;cases h;cases h;rename_i n c cs t n' r' rs;split at h;rename_i X;subst X;split at h;rename_i id o y;have I:=FI (R:=R) y;obtain⟨ls',Z,h⟩:=Qs (R:=R) h;simp[YO.er,AS.fg]at I Z;split at h;rename_i L;obtain⟨ns,ls,j,h⟩:=MZ (R:=R) h;split at h;rename_i J;split at h;rename_i S' us G;obtain⟨H,_⟩:=MU (R:=R) G;refine⟨S',_,?_,h⟩;simp only[Lv.dN,I,Z];rw[AY (tN L),j];dsimp;rw[H,J];simp only[Dc,GB];rfl;cases h;cases h;cases h;cases h;cases h;rename_i cs;obtain⟨ns,ls,j,h⟩:=MZ (R:=R) h;split at h;rename_i J;split at h;rename_i S' us G;obtain⟨H,_⟩:=MU (R:=R) G;refine⟨S',us,?_,h⟩;have:Lv.dN rs (S.fg R)=match Lv.Mo rs (S.fg R) with
  |some (ns,ls)=>(match Lv.D5 (S.fg R) ls with|some (S',cs)=>some (S',zg ns,cs)|none=>none)
  |none=>none:=by
  rcases rs with _|⟨a,_|⟨b,rs⟩⟩;rfl;cases a<;>first|rfl|(simp[Lv.Mo]at j)
  cases a<;>first|rfl|(simp[Lv.Mo]at j)
 rw[this,j];dsimp;rw[H,J];rfl;cases h;cases h;cases h
theorem AZc{l}{u}(h:owT l=some u):Lv.owT (AS.fg R l)=some u.fg:=by
 cases l with
 |ow x=>cases h;rfl
 |t x=>grind[owT,AS.fg,Lv.owT,nD]
 |_=>cases h
theorem AKk:∀{ls:List AS} {us:List U},fh ls=some us->Lv.fh (ls.map (AS.fg R))=some (us.map U.fg)/\us.length=ls.length
 | [],us,h=>by cases h;exact⟨rfl,rfl⟩
 |l::ls,us,h=>by simp[fh]at h;split at h;rename_i x xs j q;cases h;obtain⟨y,B⟩:=AKk q;simp only[AJ,Lv.fh,AZc j,y,AK,B];exact⟨trivial,trivial⟩;cases h
theorem iH{k}:∀{ls:List AS} {us:List U},F6 k ls=some us->us.length=ls.length
 | [],us,h=>by cases h;rfl
 |l::ls,us,h=>by simp[F6]at h;split at h;rename_i x xs q j;cases h;simp[AK,iH j];cases h
def chunks:List C->List U->List (List U)| [],_=>[]|c::cs,us=>us.take c.size::chunks cs (us.drop c.size)
theorem iP:∀(cs:List C) (us:List U),(chunks cs us).length=cs.length| [],_=>rfl|c::cs,us=>by simp only[chunks,AK,iP cs]
theorem dj:∀(cs:List C) (us:List U),us.length=Ws cs->(chunks cs us).flatten=us
 | [],us,h=>by cases us with|nil=>rfl|cons u us=>cases h
 |c::cs,us,h=>by simp[Ws]at h;simp[chunks,List.flatten_cons];rw[dj cs _ (by rw[BD];omega),CL]
theorem iO:∀(cs j:List C) (us os:List U),us.length=Ws cs->chunks (cs++j) (us++os)=chunks cs us++chunks j os
 | [],j,us,os,h=>by cases us with|nil=>rfl|cons u us=>cases h
 |c::cs,j,us,os,h=>by simp[Ws]at h;simp only[A8,chunks];rw[List.take_append_of_le_length (by omega),List.drop_append_of_le_length (by omega),iO cs j _ os (by rw[BD];omega)]
theorem nZ:∀{cs:List C} {us:List U} {x:Tu cs},ofT cs us=some x->S7 cs x=(chunks cs us).map (List.map U.fg)
 | [],us,x,h=>rfl| [c],us,x,h=>by have j:ofC c us=some x:=h;show [enc c x]=_;rw[Jj j];simp only[chunks,AJ,Bb];rw[List.take_of_length_le (by rw[AW2 j];exact Aj _)]
 |c::q::cs,us,x,h=>by simp[ofT]at h;split at h;rename_i a b y B;cases h;show enc c a::S7 (q::cs) b=_;rw[Jj y,nZ B];rfl;cases h
theorem NT{S}:∀{ks:List PK} {i:Nat} {os:List U},F8 i ks S=some os->Lv.F8 i (ks.map PK.md) (S.fg R)=some ((chunks (NR ks) os).map (List.map U.fg))/\os.length=Ws (NR ks)
 | [],i,os,h=>by cases h;exact⟨rfl,rfl⟩
 |.b c::ks,i,os,h=>by
  simp[F8]at h;split at h;rename_i ls J B E;obtain⟨G,H⟩:=NT (ks:=ks) E;split at h;rename_i q;split at h;rename_i us y;cases h;have j:us.length=c.size:=by rw[iH y,q.2]
  have I:i∈(S.fg R).pin:=mem_iff.1 q.1;refine⟨?_,by simp[AH,NR,Ws,j,H]⟩;simp only[AJ,PK.md,Lv.F8,Pw,B,As,G,NR,chunks];rw[AY I,PG y,Ci j,C4 j];rfl;cases h;cases h;cases h
 |.m c::ks,i,os,h=>by
  simp[F8]at h;split at h;rename_i e J B E;obtain⟨G,H⟩:=NT (ks:=ks) E;split at h;rename_i q;split at h;rename_i us y;cases h;obtain⟨L,O⟩:=AKk (R:=R) y;have j:us.length=c.size:=by rw[O,q.2.2]
  have I:i∈(S.fg R).pin:=mem_iff.1 q.1;refine⟨?_,by simp[AH,NR,Ws,j,H]⟩;simp only[AJ,PK.md,Lv.F8,ZV,B,As,G,NR,chunks,Ent.fg,Af];rw[AY ⟨I,q.2.1⟩,L,Ci j,C4 j];rfl;cases h;cases h;cases h
 |.v c::ks,i,os,h=>NT (ks:=ks) h|.p c::ks,i,os,h=>NT (ks:=ks) h|.o c::ks,i,os,h=>NT (ks:=ks) h|.f x l::ks,i,os,h=>NT (ks:=ks) h
theorem ACu:∀(cs:List C) (x:Tu cs),(S7 cs x).map List.length=cs.map C.size
 | [],x=>rfl| [c],x=>congrArg (λn=>[n]) (Qj c x)|c::j::cs,x=>by obtain⟨a,b⟩:=x;show (enc c a).length::(S7 (j::cs) b).map List.length=_;rw[ACu (j::cs) b,Qj];rfl
theorem NS:∀(ks:List PK) (a:A ks) (os:List (List T)),os.map List.length=(NR ks).map C.size->Lv.Hj (ks.map PK.md) (aVs ks a) os=true
 | [],a,[],h=>rfl| [],a,o::os,h=>by cases h
 |.b c::ks,a,[],h=>by cases h
 |.b c::ks,a,o::os,h=>by obtain⟨j,q⟩:=a;simp[NR,AJ,B3]at h;have y:(enc c j).length=c.size:=Qj c j;show (o.length==(enc c j).length&&Lv.Hj (ks.map PK.md) (aVs ks q) os)=true;rw[y,h.1,NS ks q os h.2];simp
 |.m c::ks,a,[],h=>by cases h
 |.m c::ks,a,o::os,h=>by simp[NR,AJ,B3]at h;exact NS ks a.2 os h.2
 |.v c::ks,a,os,h=>NS ks a.2 os h|.p c::ks,a,os,h=>NS ks a.2 os h|.o c::ks,a,os,h=>NS ks a.2 os h|.f x l::ks,a,os,h=>NS ks a.2 os h
end
def YF.er(f:YF):CQ:=.mk (f.ps.map PK.md) f.rs f.body.er
theorem AFI{f:YF}{S:St}{r}(h:fin f.ps f.rk f.rs S=some r) :
 Lv.fin (f.ps.map PK.md) f.rs (S.fg f.R) f.rk.sh ((S7 _ r).take f.rk.cs.length).flatten ((S7 _ r).drop f.rk.cs.length):=by
 unfold fin at h;obtain⟨S',us,B,h⟩:=AXO (R:=f.R) h;split at h;rename_i os G;split at h;rename_i y;obtain⟨E,H⟩:=NT (R:=f.R) G;have q:=nZ h;rw[iO _ _ _ _ y,Dc]at q;have j:((chunks f.rk.cs us).map (List.map U.fg)).length=f.rk.cs.length:=by rw[Af,iP]
 rw[q,Ci j,C4 j];refine⟨S'.fg f.R,?_,E⟩;rw[B,<-Lj,dj _ _ y];cases h;cases h
theorem YF.sound{f:YF}(q:ADq f.ps=true)(j:f.fs.map (λn=>(f.R[n]?).map GF.x)=(fX f.ps).map some){a:A f.ps}{r:Tu (f.rk.cs++NR f.ps)}(h:f.run a=some r) :
 K8 f.er (aVs f.ps a) f.rk.sh ((S7 _ r).take f.rk.cs.length).flatten ((S7 _ r).drop f.rk.cs.length):=by rw[YF.run,FY]at h;refine .intro ⟨_,P4 (R:=f.R) f.ps 0 f.fs a ⟨[],[],[],0⟩ q j,?_,?_⟩;grind[E2,AFI];grind[NS,ACu,NR,List.map_drop,List.drop_left',List.length_map]
def YF.gf(f:YF)(hp:ADq f.ps=true)(hf:f.fs.map (λn=>(f.R[n]?).map GF.x)=(fX f.ps).map some)(d:A f.ps->Option (Tu (f.rk.cs++NR f.ps)))(hd:∀a,f.run a=d a):GF:=
 ⟨f.er,f.ps,f.rk,d,rfl,λa r h=>YF.sound hp hf ((hd a).trans h)⟩
end Y
end Lv
namespace Lv
open Y
open Go
def pq(c:C)(xs:List c.D)(i:Int)(ys:List c.D):Option (List c.D):=
 if 0<=i/\i.toNat<=xs.length/\ys≠[]/\xs.length+ys.length<=lim then some (xs.take i.toNat++ys++xs.drop i.toNat) else none
theorem ASz{c}(q:Wf c=true) xs  i  ys  r(h:pq c xs i ys=some r) :
 K8 (.OW (2*c.size) [.o,.v,.v]) [.o .one (enc (.l c) xs),.v .one (enc .i i),.v .one (enc (.l c) ys)] .one (enc (.l c) r) []:=by unfold pq at h;split at h;rename_i j;cases h;intro Rn hRn;refine hRn _ _ _ _ _ ?_;show WY (2*c.size) _ _ _ _;unfold WY;refine⟨by omega,?_⟩;rw[AY (by omega)];refine⟨_,xs.map (enc c),_,ys.map (enc c),i,rfl,rfl,?_,rfl,?_,KH q _,KH q _,j.1,by simpa using j.2.1,by simpa using j.2.2.1,by simpa using j.2.2.2,rfl,?_,rfl⟩;simp[eOf];simp[eOf];show [T.sl c.size ((xs.take i.toNat++ys++xs.drop i.toNat).map (enc c))]=_;simp[C8,Cp];cases h
def AY7(c:C)(hf:Wf c=true):GF:=
 ⟨.OW (2*c.size) [.o,.v,.v],[.o (.l c),.v .i,.v (.l c)],.ret [.l c],λa=>pq c a.1 a.2.1 a.2.2.1,rfl,λa r h=>ASz hf _ _ _ r h⟩
def ACr(c:C)(xs:List c.D)(i j:Int):Option (List c.D):=
 if 0<=i/\i<j/\j<=xs.length then some (xs.take i.toNat++xs.drop j.toNat) else none
theorem APO{c:C}(E:Wf c=true)(y:decide (0<c.size)=true)(xs:List c.D)(i j:Int)(r:List c.D)(h:ACr c xs i j=some r) :
 K8 (.OW (2*c.size+1) [.o,.v,.v]) [.o .one (enc (.l c) xs),.v .one (enc .i i),.v .one (enc .i j)] .one (enc (.l c) r) []:=by
 unfold ACr at h;split at h;rename_i q;cases h;intro Rn hRn;refine hRn _ _ _ _ _ ?_;show WY (2*c.size+1) _ _ _ _;unfold WY;have B:(2*c.size+1) / 2=c.size:=by omega
 have y:=of_decide_eq_true y;refine⟨by omega,?_⟩;rw[Aa (by omega),B];refine⟨xs.map (enc c),i,j,rfl,KH E _,q.1,q.2.1,by simpa using q.2.2,rfl,?_,rfl⟩;show [T.sl c.size ((xs.take i.toNat++xs.drop j.toNat).map (enc c))]=_;simp[C8,Cp];cases h
def AYt(c:C)(hf:Wf c=true)(hs:decide (0<c.size)=true):GF:=
 ⟨.OW (2*c.size+1) [.o,.v,.v],[.o (.l c),.v .i,.v .i],.ret [.l c],λa=>ACr c a.1 a.2.1 a.2.2.1,rfl,λa r h=>APO hf hs _ _ _ r h⟩
structure AAR(ps:List PK)(rk:RK) where
 x:CQ
 d:A ps->Option (Tu (rk.cs++NR ps))
 ms:FQ x=ps.map PK.md
 ok:∀a r,d a=some r->K8 x (aVs ps a) rk.sh ((S7 _ r).take rk.cs.length).flatten ((S7 _ r).drop rk.cs.length)
def AAR.gf{ps:List PK}{rk:RK}(r:AAR ps rk):GF:=⟨r.x,ps,rk,r.d,r.ms,r.ok⟩
def AAR.of(g:GF):AAR g.ps g.rk:=⟨g.x,g.d,g.ms,g.ok⟩
def AAR.nil(ps:List PK)(rk:RK):AAR ps rk:=⟨.OW 1 (ps.map PK.md),λ_=>none,rfl,λ_ _ h=>by cases h⟩
end Lv
namespace Lv
open Go (IntKind BinOp UnOp)
variable{α0 α1 α2 α3 α4 α5 e:Type}
section
variable{a b c d e f g h:Type}
def Bg(k:a->h)(x:a×b):h:=k x.1
def BR(k:a->b->h)(x:a×b×c):h:=k x.1 x.2.1
def Gw(k:a->b->c->h)(x:a×b×c×d):h:=k x.1 x.2.1 x.2.2.1
def Xo(k:a->b->c->d->h)(x:a×b×c×d×e):h:=k x.1 x.2.1 x.2.2.1 x.2.2.2.1
def AHi(k:a->b->c->d->e->h)(x:a×b×c×d×e×f):h:=k x.1 x.2.1 x.2.2.1 x.2.2.2.1 x.2.2.2.2.1
def AHj(k:a->b->c->d->e->f->h)(x:a×b×c×d×e×f×g):h:=k x.1 x.2.1 x.2.2.1 x.2.2.2.1 x.2.2.2.2.1 x.2.2.2.2.2.1
end
namespace Y
def YF.FA(f:YF)(d:A f.ps->Option (Tu (f.rk.cs++NR f.ps)))(hd:∀a,f.run a=d a:=by intro a;kernel_rfl)(hp:ADq f.ps=true:=by rfl)(hf:f.fs.map (λn=>(f.R[n]?).map GF.x)=(fX f.ps).map some:=by rfl):GF:=f.gf hp hf d hd
end Y
def Vb{e:Type}(x y:Bp)(X:Option e):Option e:=eqv x.Data y.Data (eqv x.Safe y.Safe X)
theorem OG x(X:Option e):Vb x x X=X:=by simp only[Vb,Cy]
def Tm{e:Type}(x y:Ck)(X:Option e):Option e:=eqv x.Code y.Code (eqv x.Ids y.Ids X)
theorem AAH x(X:Option e):Tm x x X=X:=by simp only[Tm,Cy]
def AAJ{e:Type}(x y:Dy)(X:Option e):Option e:=eqv x.VB y.VB (eqv x.at_ y.at_ (eqv x.AAe y.AAe X))
theorem AAK x(X:Option e):AAJ x x X=X:=by simp only[AAJ,Cy]
def Jm{e:Type}(x y:AP)(X:Option e):Option e:=eqv x.b_ y.b_ (eqv x.i_ y.i_ (eqv x.h_ y.h_ X))
theorem Mk x(X:Option e):Jm x x X=X:=by simp only[Jm,Cy]
def AAF{e:Type}(x y:Ar)(X:Option e):Option e:=eqv x.Level y.Level (eqv x.A3 y.A3 (eqv x.Id y.Id (eqv x.BL y.BL X)))
theorem AAG x(X:Option e):AAF x x X=X:=by simp only[AAF,Cy]
def AYS{e:Type}(x y:Bo)(X:Option e):Option e:=eqv x.Kind y.Kind (eqv x.Id y.Id (eqv x.Ab y.Ab (eqv x.Bs y.Bs (eqv x.BL y.BL (eqv x.DH y.DH X)))))
theorem Xq x(X:Option e):AYS x x X=X:=by simp only[AYS,Cy]
def AAI{e:Type}(x y:BY)(X:Option e):Option e:=eqv x.Log.Data y.Log.Data (eqv x.Log.Safe y.Log.Safe (eqv x.DR.Data y.DR.Data (eqv x.DR.Safe y.DR.Safe (eqv x.Odd.Data y.Odd.Data (eqv x.Odd.Safe y.Odd.Safe X)))))
theorem Tn x(X:Option e):AAI x x X=X:=by simp only[AAI,Cy]
def Cn{e:Type}(x y:Ad)(X:Option e):Option e:=eqv x.AZ y.AZ (eqv x.Cj y.Cj (eqv x.Room y.Room (eqv x.BL y.BL (eqv x.Ca y.Ca (eqv x.CD y.CD (eqv x.Rest y.Rest (eqv x.Cr y.Cr (eqv x.Da y.Da X))))))))
theorem PD x(X:Option e):Cn x x X=X:=by simp only[Cn,Cy]
def Mj{e:Type}(x y:AR)(X:Option e):Option e:=eqv x.Id y.Id (eqv x.Ab y.Ab (eqv x.Bs y.Bs (eqv x.BL y.BL (eqv x.DH y.DH (eqv x.Since y.Since (eqv x.A3 y.A3 (eqv x.State y.State (eqv x.DK y.DK (eqv x.De y.De X)))))))))
theorem FP x(X:Option e):Mj x x X=X:=by simp only[Mj,Cy]
def Mi{e:Type}(x y:AF)(X:Option e):Option e:=eqv x.AQ.AZ y.AQ.AZ (eqv x.AQ.Cj y.AQ.Cj (eqv x.AQ.Room y.AQ.Room (eqv x.AQ.BL y.AQ.BL (eqv x.AQ.Ca y.AQ.Ca (eqv x.AQ.CD y.AQ.CD (eqv x.AQ.Rest y.AQ.Rest (eqv x.AQ.Cr y.AQ.Cr (eqv x.AQ.Da y.AQ.Da (eqv x.Now y.Now (eqv x.A3 y.A3 (eqv x.AG y.AG (eqv x.AI y.AI (eqv x.BM y.BM (eqv x.BI y.BI X))))))))))))))
theorem Kb x(X:Option e):Mi x x X=X:=by simp only[Mi,Cy]
def pM{e:Type}(x y:Ai)(X:Option e):Option e:=eqv x.BG.AQ.AZ y.BG.AQ.AZ (eqv x.BG.AQ.Cj y.BG.AQ.Cj (eqv x.BG.AQ.Room y.BG.AQ.Room (eqv x.BG.AQ.BL y.BG.AQ.BL (eqv x.BG.AQ.Ca y.BG.AQ.Ca (eqv x.BG.AQ.CD y.BG.AQ.CD (eqv x.BG.AQ.Rest y.BG.AQ.Rest (eqv x.BG.AQ.Cr y.BG.AQ.Cr (eqv x.BG.AQ.Da y.BG.AQ.Da (eqv x.BG.Now y.BG.Now (eqv x.BG.A3 y.BG.A3 (eqv x.BG.AG y.BG.AG (eqv x.BG.AI y.BG.AI (eqv x.BG.BM y.BG.BM (eqv x.BG.BI y.BG.BI (eqv x.Ac.Log.Data y.Ac.Log.Data (eqv x.Ac.Log.Safe y.Ac.Log.Safe (eqv x.Ac.DR.Data y.Ac.DR.Data (eqv x.Ac.DR.Safe y.Ac.DR.Safe (eqv x.Ac.Odd.Data y.Ac.Odd.Data (eqv x.Ac.Odd.Safe y.Ac.Odd.Safe (eqv x.Seq y.Seq (eqv x.Laid y.Laid X))))))))))))))))))))))
theorem Nh x(X:Option e):pM x x X=X:=by simp only[pM,Cy]
def FE:List U:=[.nil,.int .i64 0,.int .i64 0,.int .i64 0,.int .i64 0,.int .i64 0,.int .i64 0,.int .i64 0,.int .i64 0,.int .i64 0,.int .i64 0,.nil,.nil,.nil,.nil]
def AXo:List U:=[.int .i64 0,.int .i64 0,.int .i64 0,.int .i64 0,.int .i64 0,.int .i64 0,.int .i64 0,.int .i64 0,.int .i64 0,.int .i64 0]
def AEu:List U:=[.int .i64 0,.int .i64 0,.int .i64 0,.int .i64 0,.int .i64 0,.int .i64 0,.int .i64 0,.int .i64 0,.nil]
def AXn:List U:=[.int .i64 0,.int .i64 0,.int .i64 0,.int .i64 0,.int .i64 0,.nil,.nil]
def ev2{α0 α1 e:Type}(a0:α0)(a1:α1)(X:Option e):Option e:=eqv a0 a0 (eqv a1 a1 X)
theorem Kx(a0:α0)(j:α1)(X:Option e):ev2 a0 j X=X:=by simp only[ev2,Cy]
def ev3{α0 α1 α2 e:Type}(a0:α0)(a1:α1)(a2:α2)(X:Option e):Option e:=eqv a0 a0 (eqv a1 a1 (eqv a2 a2 X))
theorem Lc(a0:α0)(j:α1)(q:α2)(X:Option e):ev3 a0 j q X=X:=by simp only[ev3,Cy]
def ev4{α0 α1 α2 α3 e:Type}(a0:α0)(a1:α1)(a2:α2)(a3:α3)(X:Option e):Option e:=eqv a0 a0 (eqv a1 a1 (eqv a2 a2 (eqv a3 a3 X)))
theorem Ky(a0:α0)(j:α1)(q:α2)(a3:α3)(X:Option e):ev4 a0 j q a3 X=X:=by simp only[ev4,Cy]
def ev5{α0 α1 α2 α3 α4 e:Type}(a0:α0)(a1:α1)(a2:α2)(a3:α3)(a4:α4)(X:Option e):Option e:=eqv a0 a0 (eqv a1 a1 (eqv a2 a2 (eqv a3 a3 (eqv a4 a4 X))))
theorem Kz(a0:α0)(j:α1)(q:α2)(a3:α3)(a4:α4)(X:Option e):ev5 a0 j q a3 a4 X=X:=by simp only[ev5,Cy]
def ev6{α0 α1 α2 α3 α4 α5 e:Type}(a0:α0)(a1:α1)(a2:α2)(a3:α3)(a4:α4)(a5:α5)(X:Option e):Option e:=eqv a0 a0 (eqv a1 a1 (eqv a2 a2 (eqv a3 a3 (eqv a4 a4 (eqv a5 a5 X)))))
theorem KG(a0:α0)(j:α1)(q:α2)(a3:α3)(a4:α4)(y:α5)(X:Option e):ev6 a0 j q a3 a4 y X=X:=by simp only[ev6,Cy]
def ev7{α0 α1 α2 α3 α4 α5 α6 e:Type}(a0:α0)(a1:α1)(a2:α2)(a3:α3)(a4:α4)(a5:α5)(a6:α6)(X:Option e):Option e:=eqv a0 a0 (eqv a1 a1 (eqv a2 a2 (eqv a3 a3 (eqv a4 a4 (eqv a5 a5 (eqv a6 a6 X))))))
theorem K0{α6}(a0:α0)(j:α1)(q:α2)(a3:α3)(a4:α4)(y:α5)(B:α6)(X:Option e):ev7 a0 j q a3 a4 y B X=X:=by simp only[ev7,Cy]
def ev8{α0 α1 α2 α3 α4 α5 α6 α7 e:Type}(a0:α0)(a1:α1)(a2:α2)(a3:α3)(a4:α4)(a5:α5)(a6:α6)(a7:α7)(X:Option e):Option e:=eqv a0 a0 (eqv a1 a1 (eqv a2 a2 (eqv a3 a3 (eqv a4 a4 (eqv a5 a5 (eqv a6 a6 (eqv a7 a7 X)))))))
theorem K1{α6 α7}(a0:α0)(j:α1)(q:α2)(a3:α3)(a4:α4)(y:α5)(B:α6)(E:α7)(X:Option e):ev8 a0 j q a3 a4 y B E X=X:=by simp only[ev8,Cy]
def orE{F:Type}(a b:Option F):Option F:=match a with|some r=>some r|none=>b
def GF.orE(g:GF)(d d2:A g.ps->Option (Tu (g.rk.cs++NR g.ps)))(hd:∀a,d a=Lv.orE (g.d a) (d2 a))
 (hk:∀a r,d2 a=some r->K8 g.x (aVs g.ps a) g.rk.sh ((S7 _ r).take g.rk.cs.length).flatten ((S7 _ r).drop g.rk.cs.length)):GF:=
 ⟨g.x,g.ps,g.rk,d,g.ms,λa r h=>by rw[hd]at h;unfold Lv.orE at h;split at h;rename_i r' h';cases h;exact g.ok a _ h';exact hk a r h⟩
namespace Y
section
variable{R:List GF}
def qn(l:List (YOp R)):List (Option (Nat×Bool)×YOp R):=l.map λo=>(none,o)
def qf(g:Nat)(l:List (YOp R)):List (Option (Nat×Bool)×YOp R):=l.map λo=>(some (g,false),o)
def qt(g:Nat)(l:List (YOp R)):List (Option (Nat×Bool)×YOp R):=l.map λo=>(some (g,true),o)
def qr(l:List (List (Option (Nat×Bool)×YOp R)))(FZ:List Nat):Hp R:=.region l.flatten FZ
def q1(l:List (YOp R))(FZ:List Nat):Hp R:=.region (qn l) FZ
def qdl(r:B4 R):Nat->List (Option (Nat×Bool)×YOp R)->B4 R|_,[]=>r|i,o::l=>.op i o.1 [] o.2 (qdl r (i+1) l)
def qd(i:Nat)(l:List (List (Option (Nat×Bool)×YOp R)))(r:B4 R):B4 R:=qdl r i l.flatten
def qm(d s:Nat):YOp R:=.mv d (.tmp s)
def qa(d s:Nat):YOp R:=.as d (.tmp s)
def qo(d o s:Nat):YOp R:=.fa d o (.tmp s)
def ql(d s:Nat):YOp R:=.ld d none (.tmp s)
def qL(d n s:Nat):YOp R:=.ld d (some n) (.tmp s)
def qb(d:Nat)(o:BinOp)(x y:Nat):YOp R:=.bin d .num o (.tmp x) (.tmp y)
def qi(d:Nat)(o:BinOp)(x:Nat)(n:Int):YOp R:=.bin d .num o (.tmp x) (.k (.int .i64 n))
def qx(d s:Nat):YOp R:=.un d .not (.tmp s)
def qp(d c x:Nat):YOp R:=.pick d (.tmp c) (.k (.bool true)) (.tmp x)
def qq(d c x:Nat):YOp R:=.pick d (.tmp c) (.tmp x) (.k (.bool false))
def qc(d:Nat)(g:GF)(hf:([]:List Nat).map (λn=>(R[n]?).map GF.x)=(fX g.ps).map some)(l:List Nat):YOp R:=.call d g [] hf (l.map .tmp)
def qz(d s:Nat):YOp R:=.len d (.tmp s)
def qe(d:Nat)(c:C)(x i:Nat):YOp R:=.ia d c (.tmp x) (.tmp i)
def qk(d:Nat)(n:Int):YOp R:=.mv d (.k (.int .i64 n))
def qK(d:Nat)(n:Int):YOp R:=.as d (.k (.int .i64 n))
def qB(d:Nat)(b:Bool):YOp R:=.as d (.k (.bool b))
def qw(n x v:Nat):YOp R:=.st n (.tmp x) (.tmp v)
def qu(d s:Nat):YOp R:=.box d (.tmp s)
def qj(n:Int):YO:=.k (.int .i64 n)
instance (n:Nat):OfNat YO n:=⟨.tmp n⟩
def kpF:Nat->Nat->Nat->List Nat
 |0,_,_=>[]|f+1,i,n=>match Nat.beq n 0 with|true=>[]|false=>match Nat.testBit n 0 with|true=>i::kpF f (i+1) (n / 2)|false=>kpF f (i+1) (n / 2)
def wU:Nat->List (Nat->Nat->YOp R)->List (YOp R)|_,[]=>[]|0,f::l=>f 0 0::wU 1 l|k+1,f::l=>f (k+1) k::wU (k+2) l
def wn(d:Nat)(l:List (Nat->Nat->YOp R)):List (Option (Nat×Bool)×YOp R):=qn (wU d l)
def wf(g d:Nat)(l:List (Nat->Nat->YOp R)):List (Option (Nat×Bool)×YOp R):=qf g (wU d l)
def wt(g d:Nat)(l:List (Nat->Nat->YOp R)):List (Option (Nat×Bool)×YOp R):=qt g (wU d l)
def w1(d:Nat)(l:List (Nat->Nat->YOp R))(FZ:List Nat):Hp R:=q1 (wU d l) FZ
def sw(d:Nat)(l:List (Nat->Nat->YOp R))(FZ:List Nat)(b:Hp R):Hp R:=.seq (q1 (wU d l) FZ) b
def sq(l:List (YOp R))(FZ:List Nat)(b:Hp R):Hp R:=.seq (q1 l FZ) b
def sr(l:List (List (Option (Nat×Bool)×YOp R)))(FZ:List Nat)(b:Hp R):Hp R:=.seq (qr l FZ) b
def wm(s d _p:Nat):YOp R:=.mv d (.tmp s)
def wM(d p:Nat):YOp R:=.mv d (.tmp p)
def wo(o s d _p:Nat):YOp R:=.fa d o (.tmp s)
def wO(o d p:Nat):YOp R:=.fa d o (.tmp p)
def wl(s d _p:Nat):YOp R:=.ld d none (.tmp s)
def wL(d p:Nat):YOp R:=.ld d none (.tmp p)
def wk(n s d _p:Nat):YOp R:=.ld d (some n) (.tmp s)
def wK(n d p:Nat):YOp R:=.ld d (some n) (.tmp p)
def wz(s d _p:Nat):YOp R:=.len d (.tmp s)
def wZ(d p:Nat):YOp R:=.len d (.tmp p)
def wx(s d _p:Nat):YOp R:=.un d .not (.tmp s)
def wX(d p:Nat):YOp R:=.un d .not (.tmp p)
def wb(o:BinOp)(x y d _p:Nat):YOp R:=.bin d .num o (.tmp x) (.tmp y)
def wB(o:BinOp)(x d p:Nat):YOp R:=.bin d .num o (.tmp x) (.tmp p)
def wi(o:BinOp)(x:Nat)(n:Int)(d _p:Nat):YOp R:=.bin d .num o (.tmp x) (.k (.int .i64 n))
def wI(o:BinOp)(n:Int)(d p:Nat):YOp R:=.bin d .num o (.tmp p) (.k (.int .i64 n))
def wr(c x d _p:Nat):YOp R:=.pick d (.tmp c) (.k (.bool true)) (.tmp x)
def wR(c d p:Nat):YOp R:=.pick d (.tmp c) (.k (.bool true)) (.tmp p)
def wq(c x d _p:Nat):YOp R:=.pick d (.tmp c) (.tmp x) (.k (.bool false))
def wQ(c d p:Nat):YOp R:=.pick d (.tmp c) (.tmp p) (.k (.bool false))
def we(c:C)(x i d _p:Nat):YOp R:=.ia d c (.tmp x) (.tmp i)
def wE(c:C)(x d p:Nat):YOp R:=.ia d c (.tmp x) (.tmp p)
def wc(g:GF)(hf:([]:List Nat).map (λn=>(R[n]?).map GF.x)=(fX g.ps).map some)(l:List YO)(d _p:Nat):YOp R:=.call d g [] hf l
def wY(g:GF)(hf:([]:List Nat).map (λn=>(R[n]?).map GF.x)=(fX g.ps).map some)(d p:Nat):YOp R:=.call d g [] hf [.tmp p]
def wj(n:Int)(d _p:Nat):YOp R:=.mv d (.k (.int .i64 n))
def wh(f:Nat->YOp R)(d _p:Nat):YOp R:=f d
def Kp(n:Nat):List Nat:=kpF 300 0 n
def cv(n:Nat)(c:C):Bool×Nat×Sh×List AL:=(false,n,.one,[.val c none])
def ca(n:Nat)(c:C):Bool×Nat×Sh×List AL:=(false,n,.agg,[.val c none])
def cx(n:Nat)(c:C):Bool×Nat×Sh×List AL:=(true,n,.one,[.val c none])
def cn(c:Nat)(ke:List Nat)(t:Hp R):Hp R:=.cond c [] ke t .skip
def ce(c:Nat)(kt ke:List Nat)(id:Nat):Hp R:=.cond c kt ke .skip (.exit id)
def bl(id:Nat)(c:Cut)(b:Hp R):Hp R:=.block id (.loop c b)
end
end Y
end Lv
namespace Lv
open Go
section
variable{A:Nat->Nat->List Md->Prop}{P:Program}
def fnd(n:Nat)(ms:List Md):List (Nat×CQ)->Option CQ
 | []=>none|p::r=>match Nat.beq p.1 n&&decide (FQ p.2=ms) with|true=>some p.2|false=>fnd n ms r
theorem wD {n ms x}:∀{r:List (Nat×CQ)},fnd n ms r=some x->(n,x)∈r
 | [],h=>by cases h
 |(k,y)::r,h=>by unfold fnd at h;split at h;rename_i j;cases h;rw[AD]at j;have q:k=n:=FK j.1;subst q;exact BQ;exact Am _ (wD h)
theorem Mt.at{r:List (Nat×CQ)} {n x} (h:∀p∈r,Mt A P p.1 p.2) (e:fnd n (FQ x) r=some x):Mt A P n x:=h _ (wD e)
def caO(P:Program)(p:Nat×CQ):List (Nat×CQ):=match P.funcs[p.1]? with|some fn=>AIA fn p.2|none=>[]
def okO(P:Program)(p:Nat×CQ):Bool:=match P.funcs[p.1]? with|some fn=>AW3 P fn p.2|none=>false
def okM(P:Program):List (Nat×CQ)->Bool| []=>true|p::l=>okO P p&&okM P l
def caM(P:Program):List (Nat×CQ)->List (List (Nat×CQ))| []=>[]|p::l=>caO P p::caM P l
def ex1(r:List (Nat×CQ))(q:Nat×CQ):Nat×CQ:=match fnd q.1 (FQ q.2) r with|some x=>(q.1,x)|none=>(q.1+1,q.2)
def exM(P:Program):List (Nat×CQ)->List (Nat×CQ)->List (List (Nat×CQ))| [],_=>[]|p::l,r=>(caO P p).map (ex1 r)::exM P l (p::r)
theorem AKb{d:Type}{f}:∀{l:List d},l=l.map f->∀x∈l,x=f x
 |a::l,h,x,j=>by injection h with q y;rcases Ae.1 j with rfl|j;exact q;exact AKb y x j
theorem Mt.s:∀{l r:List (Nat×CQ)},(∀p∈r,Mt A P p.1 p.2)->okM P l=true->caM P l=exM P l r->∀p∈l.reverseAux r,Mt A P p.1 p.2
 | [],_,h,_,_=>h|p::l,r,h,G,J=>by
  unfold okM at G;unfold caM exM at J;rw[AD]at G;obtain⟨y,L⟩:=G;injection J with j B;refine Mt.s (l:=l) (r:=p::r) (λq H=>?_) L B;rcases Ae.1 H with rfl|H;unfold okO at y;unfold caO at j;cases E:P.funcs[q.1]? with
  |none=>simp[E]at y|some fn=>
   simp[E]at y j;refine Mt.by E y rfl λt O=>?_;have e:=AKb j t O;unfold ex1 at e;cases I:fnd t.1 (FQ t.2) r with
   |none=>rw[I]at e;have:=congrArg Prod.fst e;simp at this
   |some x=>rw[I]at e;rw[e];exact h _ (wD I)
  exact h q H
def lX(l:List (Nat×GF)):List (Nat×CQ):=l.map λp=>(p.1,p.2.x)
end
end Lv
