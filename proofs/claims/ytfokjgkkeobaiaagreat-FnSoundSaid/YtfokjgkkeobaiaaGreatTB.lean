/- The typed machine is right about the light one. -/
import Derived.Test.YtfokjgkkeobaiaaGreatLvE
import Derived.KernelRfl
set_option linter.all false
noncomputable section
open Bool renaming and_eq_true->AF,false_and->Bt,false_eq_true->BI,not_eq_true'->A8
open List renaming all_map->J0,any_map->Hp,cons_append->Bi,drop_left'->Cr,ext_getElem?->Fw,getD_eq_getElem?_getD->BA,getElem?_eq_some_iff->AP,getElem?_map->Ay,getElem?_set->EI,length_append->AJ,length_cons->AI,length_drop->BH,length_map->Ac,length_nil->AM,map_append->Cs,map_cons->AK,map_drop->Cl,map_flatten->Kg,map_map->DN,map_nil->BX,map_replicate->Fe,map_set->Hq,map_take->DB,mem_cons->Ad,mem_cons_of_mem->Ae,mem_cons_self->BJ,replicate_succ->JO,take_append_drop->CY,take_left'->Ca
open List.cons renaming injEq->CB
open Nat renaming beq_refl->J1,eq_of_beq_eq_true->Ey,le_of_ble_eq_true->Ij,le_refl->Ab,lt_of_lt_of_le->BV,lt_succ_of_lt->KE,ne_of_beq_eq_false->IH,not_lt->O6,sub_self->Eg
open Option renaming getD_some->DE,map_some->Ap
open Option.some renaming injEq->AD
namespace Lv
open Go (IntKind BinOp UnOp)
variable{α:Type}{o:Option α}{γ:Type}{x:Option γ}{σ:Type}{r:γ}
structure Bp where
 mk ::
 Kind:Int
 Id:Int
 AZ:Int
 Bz:Int
 BK:Int
 DS:Int
abbrev AJc(x:Bp):List T:=[.int .i64 x.Kind,.int .i64 x.Id,.int .i64 x.AZ,.int .i64 x.Bz,.int .i64 x.BK,.int .i64 x.DS]
structure AY where
 mk ::
 AX:List Int
 CZ:Int
 Room:Int
 BK:Int
 CI:Int
 B6:Int
 Rest:Int
 Cg:Int
 C4:Int
abbrev AVh(x:AY):List T:=[.sl 1 (x.AX.map eN),.int .i64 x.CZ,.int .i64 x.Room,.int .i64 x.BK,.int .i64 x.CI,.int .i64 x.B6,.int .i64 x.Rest,.int .i64 x.Cg,.int .i64 x.C4]
structure AU where
 mk ::
 Id:Int
 AZ:Int
 Bz:Int
 BK:Int
 DS:Int
 Since:Int
 A4:Int
 State:Int
 DM:Int
 Dm:Int
abbrev dN(x:AU):List T:=[.int .i64 x.Id,.int .i64 x.AZ,.int .i64 x.Bz,.int .i64 x.BK,.int .i64 x.DS,.int .i64 x.Since,.int .i64 x.A4,.int .i64 x.State,.int .i64 x.DM,.int .i64 x.Dm]
structure BN where
 mk ::
 Total:Int
 D1:Int
 FL:Int
 GA:Int
 GZ:Int
abbrev AOq(x:BN):List T:=[.int .i64 x.Total,.int .i64 x.D1,.int .i64 x.FL,.int .i64 x.GA,.int .i64 x.GZ]
structure A0 where
 mk ::
 Level:Int
 A4:Int
 Id:Int
 BK:Int
abbrev AJa(x:A0):List T:=[.int .i64 x.Level,.int .i64 x.A4,.int .i64 x.Id,.int .i64 x.BK]
structure Bc where
 mk ::
 At:Int
 Id:Int
abbrev AOr(x:Bc):List T:=[.int .i64 x.At,.int .i64 x.Id]
structure A2 where
 mk ::
 Au:List (List Bc)
abbrev AVj(x:A2):List T:=[.sl 1 (x.Au.map (λl=>[T.sl 2 (l.map AOr)]))]
structure Ag where
 mk ::
 AX:BN
 Row:List A0
 B5:A2
abbrev dM(x:Ag):List T:=[.int .i64 x.AX.Total,.int .i64 x.AX.D1,.int .i64 x.AX.FL,.int .i64 x.AX.GA,.int .i64 x.AX.GZ,.sl 4 (x.Row.map AJa),.sl 1 (x.B5.Au.map (λl=>[T.sl 2 (l.map AOr)]))]
structure AE where
 mk ::
 AQ:AY
 Now:Int
 A4:Int
 AG:List AU
 AH:List Ag
 BD:List Int
 BB:List Int
abbrev AVg(x:AE):List T:=[.sl 1 (x.AQ.AX.map eN),.int .i64 x.AQ.CZ,.int .i64 x.AQ.Room,.int .i64 x.AQ.BK,.int .i64 x.AQ.CI,.int .i64 x.AQ.B6,.int .i64 x.AQ.Rest,.int .i64 x.AQ.Cg,.int .i64 x.AQ.C4,.int .i64 x.Now,.int .i64 x.A4,.sl 10 (x.AG.map dN),.sl 7 (x.AH.map dM),.sl 1 (x.BD.map eN),.sl 1 (x.BB.map eN)]
structure B4 where
 mk ::
 Data:List UInt8
 Safe:Int
abbrev AXu(x:B4):List T:=[.str x.Data,.int .i64 x.Safe]
structure Bo where
 mk ::
 Log:B4
 Eo:B4
 Odd:B4
abbrev AVi(x:Bo):List T:=[.str x.Log.Data,.int .i64 x.Log.Safe,.str x.Eo.Data,.int .i64 x.Eo.Safe,.str x.Odd.Data,.int .i64 x.Odd.Safe]
structure A6 where
 mk ::
 Av:AE
 An:Bo
 Seq:Int
 Laid:List Bp
abbrev AOp(x:A6):List T:=[.sl 1 (x.Av.AQ.AX.map eN),.int .i64 x.Av.AQ.CZ,.int .i64 x.Av.AQ.Room,.int .i64 x.Av.AQ.BK,.int .i64 x.Av.AQ.CI,.int .i64 x.Av.AQ.B6,.int .i64 x.Av.AQ.Rest,.int .i64 x.Av.AQ.Cg,.int .i64 x.Av.AQ.C4,.int .i64 x.Av.Now,.int .i64 x.Av.A4,.sl 10 (x.Av.AG.map dN),.sl 7 (x.Av.AH.map dM),.sl 1 (x.Av.BD.map eN),.sl 1 (x.Av.BB.map eN),.str x.An.Log.Data,.int .i64 x.An.Log.Safe,.str x.An.Eo.Data,.int .i64 x.An.Eo.Safe,.str x.An.Odd.Data,.int .i64 x.An.Odd.Safe,.int .i64 x.Seq,.sl 6 (x.Laid.map AJc)]
structure Cw where
 mk ::
 Code:Int
 Ids:List Int
abbrev AJb(x:Cw):List T:=[.int .i64 x.Code,.sl 1 (x.Ids.map eN)]
structure CQ where
 mk ::
 Ar:A6
 Kt:List Bp
 Ei:List Cw
 MX:Int
abbrev AVk(x:CQ):List T:=[.sl 1 (x.Ar.Av.AQ.AX.map eN),.int .i64 x.Ar.Av.AQ.CZ,.int .i64 x.Ar.Av.AQ.Room,.int .i64 x.Ar.Av.AQ.BK,.int .i64 x.Ar.Av.AQ.CI,.int .i64 x.Ar.Av.AQ.B6,.int .i64 x.Ar.Av.AQ.Rest,.int .i64 x.Ar.Av.AQ.Cg,.int .i64 x.Ar.Av.AQ.C4,.int .i64 x.Ar.Av.Now,.int .i64 x.Ar.Av.A4,.sl 10 (x.Ar.Av.AG.map dN),.sl 7 (x.Ar.Av.AH.map dM),.sl 1 (x.Ar.Av.BD.map eN),.sl 1 (x.Ar.Av.BB.map eN),.str x.Ar.An.Log.Data,.int .i64 x.Ar.An.Log.Safe,.str x.Ar.An.Eo.Data,.int .i64 x.Ar.An.Eo.Safe,.str x.Ar.An.Odd.Data,.int .i64 x.Ar.An.Odd.Safe,.int .i64 x.Ar.Seq,.sl 6 (x.Ar.Laid.map AJc),.sl 6 (x.Kt.map AJc),.sl 2 (x.Ei.map AJb),.int .i64 x.MX]
structure Dv where
 mk ::
 Kind:Int
 Req:Bp
 N_:Int
 Pd:List Int
abbrev AY3(x:Dv):List T:=[.int .i64 x.Kind,.int .i64 x.Req.Kind,.int .i64 x.Req.Id,.int .i64 x.Req.AZ,.int .i64 x.Req.Bz,.int .i64 x.Req.BK,.int .i64 x.Req.DS,.int .i64 x.N_,.sl 1 (x.Pd.map eN)]
structure B3 where
 mk ::
 Seq:Int
 Body:List UInt8
 Next:Int
abbrev AVf(x:B3):List T:=[.int .i64 x.Seq,.str x.Body,.int .i64 x.Next]
structure Df where
 mk ::
 Ti:List Int
 at_:Int
 zK:Bool
abbrev AVl(x:Df):List T:=[.sl 1 (x.Ti.map eN),.int .i64 x.at_,.bool x.zK]
structure BS where
 mk ::
 b_:List UInt8
 i_:Int
 h_:Int
abbrev AVm(x:BS):List T:=[.sl 1 (x.b_.map eBr),.int .i64 x.i_,.int .i64 x.h_]
inductive C where
 |i|u|b|s|m|z|ki(k:IntKind)|l(c:C)|st(n:Nat)|un(n:Nat)
 deriving DecidableEq
def tD:Nat->Type|0=>Bp|1=>AY|2=>AU|3=>BN|4=>A0|5=>Bc|6=>A2|7=>Ag|8=>AE|9=>B4|10=>Bo|11=>A6|12=>Cw|13=>CQ|14=>Dv|15=>B3|16=>Df|17=>BS|_=>Unit
def C.D:C->Type|.i=>Int|.u=>UInt8|.b=>Bool|.s=>List UInt8|.m=>List (Int×Int)|.ki _=>Int|.z=>Unit|.l c=>List c.D|.st n=>tD n|.un _=>Unit
def AXK:Nat->Nat|0=>6|1=>9|2=>10|3=>5|4=>4|5=>2|6=>1|7=>7|8=>15|9=>2|10=>6|11=>23|12=>2|13=>26|14=>9|15=>3|16=>3|17=>3|_=>0
def C.size:C->Nat|.st n=>AXK n|.un n=>n|_=>1
inductive U where
 |top|un|int(k:IntKind)(n:Int)|u8(x:UInt8)|bool(b:Bool)|str(s:List UInt8)|nil|np|sl(c:C)(xs:List c.D)|mp(ks:List (Int×Int))
def AY4:(n:Nat)->tD n->List T|0,x=>AJc x|1,x=>AVh x|2,x=>dN x|3,x=>AOq x|4,x=>AJa x|5,x=>AOr x|6,x=>AVj x|7,x=>dM x|8,x=>AVg x|9,x=>AXu x|10,x=>AVi x|11,x=>AOp x|12,x=>AJb x|13,x=>AVk x|14,x=>AY3 x|15,x=>AVf x|16,x=>AVl x|17,x=>AVm x|_+18,_=>[]
def enc:(c:C)->c.D->List T|.i,x=>[.int .i64 x]|.u,x=>[.int .u8 x.toNat]|.b,x=>[.bool x]|.s,x=>[.str x]|.m,x=>[.mp x]|.ki k,x=>[.int k x]|.z,_=>[.nil]|.l c,xs=>[.sl c.size (xs.map (enc c))]|.st n,x=>AY4 n x|.un n,_=>List.replicate n .un
abbrev AWx(x:Bp):List U:=[.int .i64 x.Kind,.int .i64 x.Id,.int .i64 x.AZ,.int .i64 x.Bz,.int .i64 x.BK,.int .i64 x.DS]
abbrev AHQ(x:AY):List U:=[.sl .i x.AX,.int .i64 x.CZ,.int .i64 x.Room,.int .i64 x.BK,.int .i64 x.CI,.int .i64 x.B6,.int .i64 x.Rest,.int .i64 x.Cg,.int .i64 x.C4]
abbrev AHO(x:AU):List U:=[.int .i64 x.Id,.int .i64 x.AZ,.int .i64 x.Bz,.int .i64 x.BK,.int .i64 x.DS,.int .i64 x.Since,.int .i64 x.A4,.int .i64 x.State,.int .i64 x.DM,.int .i64 x.Dm]
abbrev zQ(x:BN):List U:=[.int .i64 x.Total,.int .i64 x.D1,.int .i64 x.FL,.int .i64 x.GA,.int .i64 x.GZ]
abbrev AHL(x:A0):List U:=[.int .i64 x.Level,.int .i64 x.A4,.int .i64 x.Id,.int .i64 x.BK]
abbrev AWw(x:Bc):List U:=[.int .i64 x.At,.int .i64 x.Id]
abbrev AHS(x:A2):List U:=[.sl (.l (.st 5)) x.Au]
abbrev AHK(x:Ag):List U:=[.int .i64 x.AX.Total,.int .i64 x.AX.D1,.int .i64 x.AX.FL,.int .i64 x.AX.GA,.int .i64 x.AX.GZ,.sl (.st 4) x.Row,.sl (.l (.st 5)) x.B5.Au]
abbrev AHN(x:AE):List U:=[.sl .i x.AQ.AX,.int .i64 x.AQ.CZ,.int .i64 x.AQ.Room,.int .i64 x.AQ.BK,.int .i64 x.AQ.CI,.int .i64 x.AQ.B6,.int .i64 x.AQ.Rest,.int .i64 x.AQ.Cg,.int .i64 x.AQ.C4,.int .i64 x.Now,.int .i64 x.A4,.sl (.st 2) x.AG,.sl (.st 7) x.AH,.sl .i x.BD,.sl .i x.BB]
abbrev ANz(x:B4):List U:=[.str x.Data,.int .i64 x.Safe]
abbrev AHR(x:Bo):List U:=[.str x.Log.Data,.int .i64 x.Log.Safe,.str x.Eo.Data,.int .i64 x.Eo.Safe,.str x.Odd.Data,.int .i64 x.Odd.Safe]
abbrev zP(x:A6):List U:=[.sl .i x.Av.AQ.AX,.int .i64 x.Av.AQ.CZ,.int .i64 x.Av.AQ.Room,.int .i64 x.Av.AQ.BK,.int .i64 x.Av.AQ.CI,.int .i64 x.Av.AQ.B6,.int .i64 x.Av.AQ.Rest,.int .i64 x.Av.AQ.Cg,.int .i64 x.Av.AQ.C4,.int .i64 x.Av.Now,.int .i64 x.Av.A4,.sl (.st 2) x.Av.AG,.sl (.st 7) x.Av.AH,.sl .i x.Av.BD,.sl .i x.Av.BB,.str x.An.Log.Data,.int .i64 x.An.Log.Safe,.str x.An.Eo.Data,.int .i64 x.An.Eo.Safe,.str x.An.Odd.Data,.int .i64 x.An.Odd.Safe,.int .i64 x.Seq,.sl (.st 0) x.Laid]
abbrev AHP(x:Cw):List U:=[.int .i64 x.Code,.sl .i x.Ids]
abbrev AHT(x:CQ):List U:=[.sl .i x.Ar.Av.AQ.AX,.int .i64 x.Ar.Av.AQ.CZ,.int .i64 x.Ar.Av.AQ.Room,.int .i64 x.Ar.Av.AQ.BK,.int .i64 x.Ar.Av.AQ.CI,.int .i64 x.Ar.Av.AQ.B6,.int .i64 x.Ar.Av.AQ.Rest,.int .i64 x.Ar.Av.AQ.Cg,.int .i64 x.Ar.Av.AQ.C4,.int .i64 x.Ar.Av.Now,.int .i64 x.Ar.Av.A4,.sl (.st 2) x.Ar.Av.AG,.sl (.st 7) x.Ar.Av.AH,.sl .i x.Ar.Av.BD,.sl .i x.Ar.Av.BB,.str x.Ar.An.Log.Data,.int .i64 x.Ar.An.Log.Safe,.str x.Ar.An.Eo.Data,.int .i64 x.Ar.An.Eo.Safe,.str x.Ar.An.Odd.Data,.int .i64 x.Ar.An.Odd.Safe,.int .i64 x.Ar.Seq,.sl (.st 0) x.Ar.Laid,.sl (.st 0) x.Kt,.sl (.st 12) x.Ei,.int .i64 x.MX]
abbrev AWv(x:Dv):List U:=[.int .i64 x.Kind,.int .i64 x.Req.Kind,.int .i64 x.Req.Id,.int .i64 x.Req.AZ,.int .i64 x.Req.Bz,.int .i64 x.Req.BK,.int .i64 x.Req.DS,.int .i64 x.N_,.sl .i x.Pd]
abbrev AHM(x:B3):List U:=[.int .i64 x.Seq,.str x.Body,.int .i64 x.Next]
abbrev AHU(x:Df):List U:=[.sl .i x.Ti,.int .i64 x.at_,.bool x.zK]
abbrev AHV(x:BS):List U:=[.sl .u x.b_,.int .i64 x.i_,.int .i64 x.h_]
def AEc:(n:Nat)->tD n->List U|0,x=>AWx x|1,x=>AHQ x|2,x=>AHO x|3,x=>zQ x|4,x=>AHL x|5,x=>AWw x|6,x=>AHS x|7,x=>AHK x|8,x=>AHN x|9,x=>ANz x|10,x=>AHR x|11,x=>zP x|12,x=>AHP x|13,x=>AHT x|14,x=>AWv x|15,x=>AHM x|16,x=>AHU x|17,x=>AHV x|_+18,_=>[]
def cells:(c:C)->c.D->List U|.i,x=>[.int .i64 x]|.u,x=>[.u8 x]|.b,x=>[.bool x]|.s,x=>[.str x]|.m,x=>[.mp x]|.ki k,x=>[.int k x]|.z,_=>[.nil]|.l c,xs=>[.sl c xs]|.st n,x=>AEc n x|.un n,_=>List.replicate n .un
def toI:U->Option Int|.int .i64 n=>some n|_=>none
def toU:U->Option UInt8|.u8 x=>some x|_=>none
def AWl:U->Option Bool|.bool x=>some x|_=>none
def toN(k:IntKind):U->Option Int|.int k' x=>if k'=k then some x else none|_=>none
def toZ:U->Option Unit|.nil=>some ()|_=>none
def toM:U->Option (List (Int×Int))|.mp x=>some x|_=>none
def toS:U->Option (List UInt8)|.str x=>some x|_=>none
def toL(c:C):U->Option (List c.D)|.sl c' xs=>if h:c'=c then some (h▸xs) else none|_=>none
def gI{α:Type}(us:List U)(K:Int->List U->Option α):Option α:=match us with|u::us=>(toI u).bind λa=>K a us | []=>none
def gS{α:Type}(us:List U)(K:List UInt8->List U->Option α):Option α:=match us with|u::us=>(toS u).bind λa=>K a us | []=>none
def gBo{α:Type}(us:List U)(K:Bool->List U->Option α):Option α:=match us with|u::us=>(AWl u).bind λa=>K a us | []=>none
def gL{α:Type}(c:C)(us:List U)(K:List c.D->List U->Option α):Option α:=match us with|u::us=>(toL c u).bind λa=>K a us | []=>none
def gE{α:Type}(us:List U)(a:α):Option α:=match us with | []=>some a|_::_=>none
def ASj(us:List U):Option Bp:=gI us λa0 us=>gI us λa1 us=>gI us λa2 us=>gI us λa3 us=>gI us λa4 us=>gI us λa5 us=>gE us (⟨a0,a1,a2,a3,a4,a5⟩:Bp)
def xW(us:List U):Option AY:=gL .i us λa0 us=>gI us λa1 us=>gI us λa2 us=>gI us λa3 us=>gI us λa4 us=>gI us λa5 us=>gI us λa6 us=>gI us λa7 us=>gI us λa8 us=>gE us (⟨a0,a1,a2,a3,a4,a5,a6,a7,a8⟩:AY)
def xU(us:List U):Option AU:=gI us λa0 us=>gI us λa1 us=>gI us λa2 us=>gI us λa3 us=>gI us λa4 us=>gI us λa5 us=>gI us λa6 us=>gI us λa7 us=>gI us λa8 us=>gI us λa9 us=>gE us (⟨a0,a1,a2,a3,a4,a5,a6,a7,a8,a9⟩:AU)
def mE(us:List U):Option BN:=gI us λa0 us=>gI us λa1 us=>gI us λa2 us=>gI us λa3 us=>gI us λa4 us=>gE us (⟨a0,a1,a2,a3,a4⟩:BN)
def xR(us:List U):Option A0:=gI us λa0 us=>gI us λa1 us=>gI us λa2 us=>gI us λa3 us=>gE us (⟨a0,a1,a2,a3⟩:A0)
def ASh(us:List U):Option Bc:=gI us λa0 us=>gI us λa1 us=>gE us (⟨a0,a1⟩:Bc)
def xY(us:List U):Option A2:=gL (.l (.st 5)) us λa0 us=>gE us (⟨a0⟩:A2)
def xQ(us:List U):Option Ag:=gI us λa0 us=>gI us λa1 us=>gI us λa2 us=>gI us λa3 us=>gI us λa4 us=>gL (.st 4) us λa5 us=>gL (.l (.st 5)) us λa6 us=>gE us (⟨⟨a0,a1,a2,a3,a4⟩,a5,⟨a6⟩⟩:Ag)
def xT(us:List U):Option AE:=gL .i us λa0 us=>gI us λa1 us=>gI us λa2 us=>gI us λa3 us=>gI us λa4 us=>gI us λa5 us=>gI us λa6 us=>gI us λa7 us=>gI us λa8 us=>gI us λa9 us=>gI us λa10 us=>gL (.st 2) us λa11 us=>gL (.st 7) us λa12 us=>gL .i us λa13 us=>gL .i us λa14 us=>gE us (⟨⟨a0,a1,a2,a3,a4,a5,a6,a7,a8⟩,a9,a10,a11,a12,a13,a14⟩:AE)
def AGE(us:List U):Option B4:=gS us λa0 us=>gI us λa1 us=>gE us (⟨a0,a1⟩:B4)
def xX(us:List U):Option Bo:=gS us λa0 us=>gI us λa1 us=>gS us λa2 us=>gI us λa3 us=>gS us λa4 us=>gI us λa5 us=>gE us (⟨⟨a0,a1⟩,⟨a2,a3⟩,⟨a4,a5⟩⟩:Bo)
def mD(us:List U):Option A6:=gL .i us λa0 us=>gI us λa1 us=>gI us λa2 us=>gI us λa3 us=>gI us λa4 us=>gI us λa5 us=>gI us λa6 us=>gI us λa7 us=>gI us λa8 us=>gI us λa9 us=>gI us λa10 us=>gL (.st 2) us λa11 us=>gL (.st 7) us λa12 us=>gL .i us λa13 us=>gL .i us λa14 us=>gS us λa15 us=>gI us λa16 us=>gS us λa17 us=>gI us λa18 us=>gS us λa19 us=>gI us λa20 us=>gI us λa21 us=>gL (.st 0) us λa22 us=>gE us (⟨⟨⟨a0,a1,a2,a3,a4,a5,a6,a7,a8⟩,a9,a10,a11,a12,a13,a14⟩,⟨⟨a15,a16⟩,⟨a17,a18⟩,⟨a19,a20⟩⟩,a21,a22⟩:A6)
def xV(us:List U):Option Cw:=gI us λa0 us=>gL .i us λa1 us=>gE us (⟨a0,a1⟩:Cw)
def xZ(us:List U):Option CQ:=gL .i us λa0 us=>gI us λa1 us=>gI us λa2 us=>gI us λa3 us=>gI us λa4 us=>gI us λa5 us=>gI us λa6 us=>gI us λa7 us=>gI us λa8 us=>gI us λa9 us=>gI us λa10 us=>gL (.st 2) us λa11 us=>gL (.st 7) us λa12 us=>gL .i us λa13 us=>gL .i us λa14 us=>gS us λa15 us=>gI us λa16 us=>gS us λa17 us=>gI us λa18 us=>gS us λa19 us=>gI us λa20 us=>gI us λa21 us=>gL (.st 0) us λa22 us=>gL (.st 0) us λa23 us=>gL (.st 12) us λa24 us=>gI us λa25 us=>gE us (⟨⟨⟨⟨a0,a1,a2,a3,a4,a5,a6,a7,a8⟩,a9,a10,a11,a12,a13,a14⟩,⟨⟨a15,a16⟩,⟨a17,a18⟩,⟨a19,a20⟩⟩,a21,a22⟩,a23,a24,a25⟩:CQ)
def ASf(us:List U):Option Dv:=gI us λa0 us=>gI us λa1 us=>gI us λa2 us=>gI us λa3 us=>gI us λa4 us=>gI us λa5 us=>gI us λa6 us=>gI us λa7 us=>gL .i us λa8 us=>gE us (⟨a0,⟨a1,a2,a3,a4,a5,a6⟩,a7,a8⟩:Dv)
def xS(us:List U):Option B3:=gI us λa0 us=>gS us λa1 us=>gI us λa2 us=>gE us (⟨a0,a1,a2⟩:B3)
def xc(us:List U):Option Df:=gL .i us λa0 us=>gI us λa1 us=>gBo us λa2 us=>gE us (⟨a0,a1,a2⟩:Df)
def xd(us:List U):Option BS:=gL .u us λa0 us=>gI us λa1 us=>gI us λa2 us=>gE us (⟨a0,a1,a2⟩:BS)
def ofS:(n:Nat)->List U->Option (tD n)|0,us=>ASj us|1,us=>xW us|2,us=>xU us|3,us=>mE us|4,us=>xR us|5,us=>ASh us|6,us=>xY us|7,us=>xQ us|8,us=>xT us|9,us=>AGE us|10,us=>xX us|11,us=>mD us|12,us=>xV us|13,us=>xZ us|14,us=>ASf us|15,us=>xS us|16,us=>xc us|17,us=>xd us|_+18,_=>none
def NT:Nat->List U->Option Unit|0,[]=>some ()|n+1,.un::us=>NT n us|_,_=>none
def of1{α:Type}(us:List U)(f:U->Option α):Option α:=match us with | [u]=>f u|_=>none
def ofC:(c:C)->List U->Option c.D|.i,us=>of1 us toI|.u,us=>of1 us toU|.b,us=>of1 us AWl|.s,us=>of1 us toS|.m,us=>of1 us toM|.ki k,us=>of1 us (toN k)|.z,us=>of1 us toZ|.l c,us=>of1 us (toL c)|.st n,us=>ofS n us|.un n,us=>NT n us
def AXQ:(n:Nat)->Option (tD n)|0=>some (⟨0,0,0,0,0,0⟩:Bp)|1=>some (⟨[],0,0,0,0,0,0,0,0⟩:AY)|2=>some (⟨0,0,0,0,0,0,0,0,0,0⟩:AU)|3=>some (⟨0,0,0,0,0⟩:BN)|4=>some (⟨0,0,0,0⟩:A0)|5=>some (⟨0,0⟩:Bc)|6=>some (⟨[]⟩:A2)|7=>some (⟨⟨0,0,0,0,0⟩,[],⟨[]⟩⟩:Ag)|8=>some (⟨⟨[],0,0,0,0,0,0,0,0⟩,0,0,[],[],[],[]⟩:AE)|9=>some (⟨[],0⟩:B4)|10=>some (⟨⟨[],0⟩,⟨[],0⟩,⟨[],0⟩⟩:Bo)|11=>some (⟨⟨⟨[],0,0,0,0,0,0,0,0⟩,0,0,[],[],[],[]⟩,⟨⟨[],0⟩,⟨[],0⟩,⟨[],0⟩⟩,0,[]⟩:A6)|12=>some (⟨0,[]⟩:Cw)|13=>some (⟨⟨⟨⟨[],0,0,0,0,0,0,0,0⟩,0,0,[],[],[],[]⟩,⟨⟨[],0⟩,⟨[],0⟩,⟨[],0⟩⟩,0,[]⟩,[],[],0⟩:CQ)|14=>some (⟨0,⟨0,0,0,0,0,0⟩,0,[]⟩:Dv)|15=>some (⟨0,[],0⟩:B3)|16=>some (⟨[],0,false⟩:Df)|17=>some (⟨[],0,0⟩:BS)|_+18=>none
def AER:(c:C)->Option c.D|.i=>some (0:Int)|.u=>some (0:UInt8)|.b=>some false|.s=>some ([]:List UInt8)|.m=>some ([]:List (Int×Int))|.ki _=>some (0:Int)|.z=>none|.l c=>some ([]:List c.D)|.st n=>AXQ n|.un _=>none
def U.fg:U->T|.top=>.top|.un=>.un|.int k n=>.int k n|.u8 x=>.int .u8 x.toNat|.bool b=>.bool b|.str s=>.str s|.nil=>.nil|.np=>.np|.mp ks=>.mp ks|.sl c xs=>.sl c.size (xs.map (enc c))
def Tu:List C->Type| []=>Unit| [c]=>c.D|c::c'::cs=>c.D×Tu (c'::cs)
def RP:(cs:List C)->Tu cs->List (List T)| [],_=>[]| [c],x=>[enc c x]|c::c'::cs,x=>enc c x.1::RP (c'::cs) x.2
def ofT:(cs:List C)->List U->Option (Tu cs)
 | [],us=>match us with | []=>some ()|_=>none
 | [c],us=>ofC c us|c::c'::cs,us=>match ofC c (us.take c.size),ofT (c'::cs) (us.drop c.size) with|some a,some b=>some (a,b)|_,_=>none
inductive PK where
 |v(c:C)|p(c:C)|b(c:C)|o(c:C)|m(c:C)|f(x:CN)(caps:List (Bool×C))
def PK.md:PK->Md|.v _=>.v|.p _=>.p|.b _=>.b|.o _=>.o|.m _=>.m|.f _ _=>.v
def shC:C->Sh|.st _=>.agg|.un _=>.agg|_=>.one
def wC:C->Option Nat|.st n=>some (AXK n)|.un n=>some n|_=>none
def su:List (Bool×C)->Type| []=>Unit|(_,c)::r=>c.D×su r
def PK.D:PK->Type|.v c=>c.D|.p c=>c.D|.b c=>c.D|.o c=>c.D|.m c=>c.D|.f _ caps=>su caps
def A:List PK->Type| []=>Unit|k::ks=>k.D×A ks
def Sj:(l:List (Bool×C))->su l->List V| [],_=>[]|(false,c)::r,x=>.v .one (enc c x.1)::Sj r x.2|(true,c)::r,x=>.p (enc c x.1)::Sj r x.2
def PK.V:(k:PK)->k.D->V|.v c,x=>.v (shC c) (enc c x)|.p c,x=>.p (enc c x)|.b c,x=>.b (enc c x)|.o c,x=>.o (shC c) (enc c x)|.m c,x=>.m (shC c) (enc c x)|.f x caps,y=>.f x (Sj caps y)
def aVs:(ks:List PK)->A ks->List V| [],_=>[]|k::ks,x=>k.V x.1::aVs ks x.2
def ME:List PK->List C| []=>[]|.b c::r=>c::ME r|.m c::r=>c::ME r|_::r=>ME r
def fX:List PK->List CN| []=>[]|.f x _::r=>x::fX r|_::r=>fX r
inductive RK where
 |ret(cs:List C)|ptr(k:Nat)(c:C)|vw(k:Nat)(c:C)
def RK.cs:RK->List C|.ret cs=>cs|.ptr _ c=>[c]|.vw _ c=>[.l c]
def RK.sh:RK->Sh|.ret cs=>ADv (cs.map wC)|.ptr k _=>.ptr k|.vw k _=>.vw k
structure GF where
 x:CN
 ps:List PK
 rk:RK
 d:A ps->Option (Tu (rk.cs++ME ps))
 ms:E2 x=ps.map PK.md
 ok:∀a r,d a=some r->KC x (aVs ps a) rk.sh ((RP _ r).take rk.cs.length).flatten ((RP _ r).drop rk.cs.length)
structure Evs where
 bd:(α γ:Type)->Option α->(α->Option γ)->Option γ
 lp:(σ γ:Type)->((σ->Option γ)->σ->Option γ)->Nat->σ->Option γ
 jn:(σ γ:Type)->(σ->Option γ)->σ->Option γ
 eq:(α γ:Type)->α->α->Option γ->Option γ
 al:(γ:Type)->(Option γ->Option γ)->Option γ->Option γ
 ox:(γ:Type)->Option γ->Option γ->Option γ
def AJ7{σ γ:Type}(F:(σ->Option γ)->σ->Option γ):Nat->σ->Option γ|0,_=>none|n+1,x=>F (AJ7 F n) x
open Classical in
def Evs.std:Evs where
 bd _ _ o f:=o.bind f
 lp _ _ F n x:=AJ7 F n x
 jn _ _ F x:=F x
 eq _ _ a b x:=if a=b then x else none
 al _ F x:=F x
 ox _ x y:=match x with|some r=>some r|none=>y
def evX:Evs:=Classical.choose (p:=λE=>E=Evs.std) ⟨_,rfl⟩
theorem PH:evX=Evs.std:=Classical.choose_spec (p:=λE=>E=Evs.std) ⟨_,rfl⟩
section
def orX{γ:Type}(x y:Option γ):Option γ:=evX.ox γ x y
def br{γ:Type}(b:Bool)(x y:Option γ):Option γ:=if b=true then x else y
def gd{γ:Type}(p:Prop)[i:Decidable p](x:Option γ):Option γ:=if p then x else none
def bd{α γ:Type}(o:Option α)(f:α->Option γ):Option γ:=evX.bd α γ o f
def BE{σ γ:Type}(F:(σ->Option γ)->σ->Option γ)(n:Nat)(x:σ):Option γ:=evX.lp σ γ F n x
def jn{σ γ:Type}(F:σ->Option γ)(x:σ):Option γ:=evX.jn σ γ F x
def eqv{α γ:Type}(a b:α)(x:Option γ):Option γ:=evX.eq α γ a b x
def alt{γ:Type}(F:Option γ->Option γ)(x:Option γ):Option γ:=evX.al γ F x
end
theorem AXH(y:Option γ):orX none y=y:=by unfold orX;rw[PH];rfl
theorem AXI(r:γ)(y:Option γ):orX (some r) y=some r:=by unfold orX;rw[PH];rfl
theorem AYS{γ:Type}{x y:Option γ}{r:γ}(h:orX x y=some r):x=some r\/y=some r:=by
 cases x with
 |none=>rw[AXH]at h;exact .inr h|some q=>rw[AXI]at h;exact .inl h
theorem AXi(b:Bool)(x y:Option γ):br b x y=if b=true then x else y:=rfl
theorem AO3{γ:Type}(p:Prop) [Decidable p] (x:Option γ):gd p x=if p then x else none:=rfl
theorem tI(o:Option α)(f:α->Option γ):bd o f=o.bind f:=by unfold bd;rw[PH];rfl
theorem ASJ(F:σ->Option γ)(x:σ):jn F x=F x:=by unfold jn;rw[PH];rfl
theorem AHD(F:Option γ->Option γ)(x:Option γ):alt F x=F x:=by unfold alt;rw[PH];rfl
open Classical in
theorem AJh(a b:α)(x:Option γ):eqv a b x=if a=b then x else none:=by unfold eqv;rw[PH];rfl
theorem Cp(a:α)(x:Option γ):eqv a a x=x:=by rw[AJh,AW rfl]
theorem TP{a b:α}(h:eqv a b x=some r):a=b/\x=some r:=by
 grind[AJh]
theorem AJ9(F:(σ->Option γ)->σ->Option γ)(x:σ):BE F 0 x=none:=by unfold BE;rw[PH];rfl
theorem Di(F:(σ->Option γ)->σ->Option γ)(n:Nat)(x:σ):BE F (n+1) x=F (BE F n) x:=by
 have:∀m y,BE F m y=AJ7 F m y:=λm y=>by unfold BE;rw[PH];rfl
 rw[this];show F (AJ7 F n) x=_;congr 1;funext y;exact(this n y).symm
inductive Cap where
 |t(x:U)|vw(k:Nat)(c:C)(xs:List c.D)|vp(k:Nat)(cs:List U)|bp(id off:Nat)
namespace Y
def mem(k:Nat):List Nat->Bool
 | []=>false|x::xs=>match Nat.beq k x with|true=>true|false=>mem k xs
def CJ.is:CJ->CJ->Bool
 |.tmp s c,.tmp s' c'=>match Nat.beq s s' with|true=>Nat.beq c c'|false=>false
 |.cell s c,.cell s' c'=>match Nat.beq s s' with|true=>Nat.beq c c'|false=>false
 |_,_=>false
def isR(o:Option CJ)(r:CJ):Bool:=match o with|some r'=>CJ.is r' r|none=>false
def isN(o:Option Nat)(r:Nat):Bool:=match o with|some r'=>Nat.beq r' r|none=>false
def get{α:Type}:List (Nat×α)->Nat->Option α
 | [],_=>none|(k,a)::r,s=>match Nat.beq k s with|true=>some a|false=>get r s
def put{α:Type}:List (Nat×α)->Nat->α->List (Nat×α)
 | [],s,a=>[(s,a)]|(k,b)::r,s,a=>match Nat.beq s k with
  |true=>(s,a)::r|false=>match Nat.ble s k with|true=>(s,a)::(k,b)::r|false=>(k,b)::put r s a
def KI{α:Type}(ks:List Nat):List (Nat×α)->List (Nat×α)
 | []=>[]|(k,b)::r=>match mem k ks with|true=>KI ks r|false=>(k,b)::KI ks r
def G8{α:Type}(ks:List Nat):List (Nat×α)->List (Nat×α)
 | []=>[]|(k,b)::r=>match mem k ks with|true=>(k,b)::G8 ks r|false=>G8 ks r
inductive AS where
 |t(x:U)|und|ow(x:U)|owh(c:C)(xs:List c.D)(hs:List (Nat×Nat))|al(r:CJ)(sub:Option (Nat×Nat))|ep(r:CJ)(i:Int)(j:Nat)|vw(s:Src)(c:C)(xs:List c.D)|vp(s:Src)(cs:List U)|bp(id off:Nat)|fn(n:Nat)(caps:List Cap)
structure Ent where
 sh:Sh
 cs:List AS
 ver:Nat
structure Bx where
 cs:List AS
 ver:Nat
structure St where
 tm:List (Nat×Ent)
 bx:List (Nat×Bx)
 pin:List Nat
 nv:Nat
section
variable{γ:Type}
def DX(n:Nat)(K:Nat->γ):γ:=match n with|0=>K 0|k+1=>K (k+1)
def _root_.Lv.U.GW(x:U)(K:U->γ):γ:=
 match x with
 |.top=>K .top|.int k n=>K (.int k n)|.u8 x=>K (.u8 x)|.bool b=>K (.bool b)|.str s=>K (.str s)|.nil=>K .nil|.np=>K .np|.un=>K .un|.sl c xs=>K (.sl c xs)|.mp ks=>K (.mp ks)
def dS:List U->(List U->γ)->γ| [],K=>K []|x::xs,K=>x.GW λx=>dS xs λxs=>K (x::xs)
def kV(r:CJ)(K:CJ->γ):γ:=
 match r with
 |.tmp s c=>DX s λs=>DX c λc=>K (.tmp s c)|.cell s c=>DX s λs=>DX c λc=>K (.cell s c)
def TR(s:Src)(K:Src->γ):γ:=
 match s with
 |.own r p=>kV r λr=>match p with|none=>K (.own r none)|some (i,j)=>DX j λj=>K (.own r (some (i,j)))
 |.old k=>DX k λk=>K (.old k)
def AS.GW(l:AS)(K:AS->γ):γ:=
 match l with
 |.t x=>x.GW λx=>K (.t x)|.und=>K .und|.ow x=>x.GW λx=>K (.ow x)|.owh c xs hs=>K (.owh c xs hs)|.al r sub=>kV r λr=>match sub with|none=>K (.al r none)|some (a,b)=>K (.al r (some (a,b)))
 |.ep r i j=>kV r λr=>DX j λj=>K (.ep r i j)|.vw s c xs=>TR s λs=>K (.vw s c xs)|.vp s cs=>TR s λs=>dS cs λcs=>K (.vp s cs)|.bp id off=>DX id λid=>DX off λoff=>K (.bp id off)|.fn n caps=>K (.fn n caps)
def UX:List AS->(List AS->γ)->γ| [],K=>K []|x::xs,K=>x.GW λx=>UX xs λxs=>K (x::xs)
def UY:List (Option Nat)->(List (Option Nat)->γ)->γ| [],K=>K []|none::xs,K=>UY xs λxs=>K (none::xs)|some n::xs,K=>DX n λn=>UY xs λxs=>K (some n::xs)
def dR(s:Sh)(K:Sh->γ):γ:=
 match s with
 |.one=>K .one|.agg=>K .agg|.tup ns=>UY ns λns=>K (.tup ns)|.ptr k=>K (.ptr k)|.vw k=>K (.vw k)
def uX:List (Nat×Ent)->(List (Nat×Ent)->γ)->γ| [],K=>K []|(k,⟨sh,cs,v⟩)::xs,K=>dR sh λsh=>UX cs λcs=>DX v λv=>uX xs λxs=>K ((k,⟨sh,cs,v⟩)::xs)
def uW:List (Nat×Bx)->(List (Nat×Bx)->γ)->γ| [],K=>K []|(k,⟨cs,v⟩)::xs,K=>UX cs λcs=>DX v λv=>uW xs λxs=>K ((k,⟨cs,v⟩)::xs)
def uY:List Nat->(List Nat->γ)->γ| [],K=>K []|x::xs,K=>uY xs λxs=>K (x::xs)
def St.GW(S:St)(K:St->γ):γ:=
 match S with
 |⟨tm,bx,pin,nv⟩=>uX tm λtm=>uW bx λbx=>uY pin λpin=>DX nv λnv=>K ⟨tm,bx,pin,nv⟩
end
structure En where
 sh:Sh
 cs:List AS
def AS.B7:AS->Option CJ|.al r _=>some r|.ep r _ _=>some r|.vw (.own r _) _ _=>some r|.vp (.own r _) _=>some r|_=>none
def _root_.Lv.Cap.Ma:Cap->Option Nat|.bp id _=>some id|_=>none
def AS.Ma:AS->Option Nat|.bp id _=>some id|.al (.cell id _) _=>some id|.ep (.cell id _) _ _=>some id|.vw (.own (.cell id _) _) _ _=>some id|.vp (.own (.cell id _) _) _=>some id|_=>none
def AS.AXl:AS->Option Cap|.t x=>some (.t x)|.vw (.old k) c xs=>some (.vw k c xs)|.vp (.old k) cs=>some (.vp k cs)|.bp id off=>some (.bp id off)|_=>none
def _root_.Lv.Cap.leaf:Cap->AS|.t x=>.t x|.vw k c xs=>.vw (.old k) c xs|.vp k cs=>.vp (.old k) cs|.bp id off=>.bp id off
def names:AS->List Nat|.bp id _=>[id]|.fn _ caps=>caps.filterMap Lv.Cap.Ma|_=>[]
def Ek(q:AS->Bool):List AS->List AS| []=>[]|l::ls=>(if q l=true then .t .top else l)::Ek q ls
def Ld(v:Nat)(q:AS->Bool):List (Nat×Ent)->List (Nat×Ent)| []=>[]|(k,e)::r=>(k,if e.cs.any q=true then ⟨e.sh,Ek q e.cs,v⟩ else e)::Ld v q r
def Lc(v:Nat)(q:AS->Bool):List (Nat×Bx)->List (Nat×Bx)| []=>[]|(k,e)::r=>(k,if e.cs.any q=true then ⟨Ek q e.cs,v⟩ else e)::Lc v q r
def St.kill(S:St)(q:AS->Bool):St:=⟨Ld S.nv q S.tm,Lc S.nv q S.bx,S.pin,S.nv+1⟩
def St.Kb(S:St)(d:Nat)(sh:Sh)(cs:List AS):St:=⟨put S.tm d ⟨sh,cs,S.nv⟩,S.bx,S.pin,S.nv+1⟩
def St.O1(S:St)(d:Nat)(cs:List AS):St:=⟨S.tm,put S.bx d ⟨cs,S.nv⟩,S.pin,S.nv+1⟩
def MC(r:CJ)(l:AS):Bool:=isR l.B7 r
def Fo(r:CJ):AS->Bool|.vw (.own r' _) _ _=>CJ.is r' r|.vp (.own r' _) _=>CJ.is r' r|_=>false
def FJ(d:Nat)(l:AS):Bool:=match l.B7 with|some (.tmp s _)=>Nat.beq s d|_=>false
def F9(d:Nat):AS->Bool|.fn _ caps=>caps.any λl=>isN l.Ma d|l=>isN l.Ma d
def MA(ks:List Nat):AS->Bool
 |.fn _ caps=>caps.any λl=>match l.Ma with|some d=>!mem d ks|none=>false
 |l=>match l.Ma with|some d=>!mem d ks|none=>false
def I7(ks:List Nat)(l:AS):Bool:=
 (match l.B7 with|some (.tmp s _)=>!mem s ks|_=>false)||MA ks l
def Zo(ks:List Nat)(l:AS):Bool:=match l.B7 with|some (.tmp s _)=>mem s ks|_=>false
def St.Im(S:St)(ks:List Nat):St:=⟨Ld S.nv (Zo ks) (KI ks S.tm),Lc S.nv (Zo ks) S.bx,S.pin,S.nv+1⟩
def St.clean(S:St)(ks:List Nat):St:=⟨Ld S.nv (I7 ks) (G8 ks S.tm),Lc S.nv (I7 ks) (G8 ks S.bx),S.pin,S.nv+1⟩
def AS.refs(l:AS):List Nat:=(match l.B7 with|some (.tmp s _)=>[s]|some (.cell b _)=>[b]|none=>[])++names l
def AUH(ks:List Nat):List (Nat×Ent)->List Nat
 | []=>[]|(k,e)::r=>match mem k ks with|true=>e.cs.flatMap AS.refs++AUH ks r|false=>AUH ks r
def AUG(ks:List Nat):List (Nat×Bx)->List Nat
 | []=>[]|(k,e)::r=>match mem k ks with|true=>e.cs.flatMap AS.refs++AUG ks r|false=>AUG ks r
def St.clo(S:St):Nat->List Nat->List Nat
 |0,ks=>ks|n+1,ks=>match (AUH ks S.tm++AUG ks S.bx).filter (λk=>!mem k ks) with| []=>ks|more=>S.clo n (ks++more)
def St.eH(S:St)(ks:List Nat):St:=S.clean (S.clo 6 (S.pin++ks))
def St.at(S:St):CJ->Option AS
 |.tmp s c=>match get S.tm s with|some e=>e.cs[c]?|none=>none
 |.cell b c=>match get S.bx b with|some ls=>ls.cs[c]?|none=>none
def St.Bg(S:St)(r:CJ)(l:AS):St:=
 match r with
 |.tmp s c=>match get S.tm s with|some e=>S.Kb s e.sh (e.cs.set c l)|none=>S
 |.cell b c=>match get S.bx b with|some ls=>S.O1 b (ls.cs.set c l)|none=>S
inductive Rw where
 |nl|of(c:C)(xs:List c.D)
def content:U->Option Rw|.nil=>some .nl|.sl c xs=>some (.of c xs)|_=>none
def nL{α:Type}(sub:Option (Nat×Nat))(xs:List α):List α:=
 match sub with
 |none=>xs|some (lo,n)=>(xs.drop lo).take n
def Rw.sub(sub:Option (Nat×Nat)):Rw->Rw|.nl=>.nl|.of c xs=>.of c (nL sub xs)
def Rw.as(c:C):Rw->Option (List c.D)|.nl=>some []|.of c' xs=>if h:c'=c then some (h▸xs) else none
def AG1(sub:Option (Nat×Nat)):U->U|.sl c xs=>.sl c (nL sub xs)|x=>x
def St.elems(S:St):AS->Option Rw
 |.al r sub=>match S.at r with
  |some (.ow x)=>match content x with|some w=>some (w.sub sub)|none=>none
  |_=>none
 |.vw _ c xs=>some (.of c xs)|.t .nil=>some .nl|_=>none
def AS.ali(s c:Nat):AS->AS|.ow _=>.al (.tmp s c) none|.owh _ _ _=>.al (.tmp s c) none|l=>l
def Sf(s:Nat):Nat->List AS->List AS|_,[]=>[]|c,l::ls=>l.ali s c::Sf s (c+1) ls
def rV:U->AS|.sl c xs=>.vw (.old 0) c xs|x=>.t x
inductive YO where
 |tmp(t:Nat)|k(x:U)|fn(n:Nat)
def St.rd(S:St):YO->Option En
 |.tmp s=>match get S.tm s with|some e=>some ⟨e.sh,Sf s 0 e.cs⟩|none=>none
 |.k x=>some ⟨.one,[rV x]⟩|.fn n=>some ⟨.one,[.fn n []]⟩
def St.rds(S:St):List YO->Option (List En)
 | []=>some []|x::xs=>match S.rd x,S.rds xs with|some e,some es=>some (e::es)|_,_=>none
def St.ES(S:St)(d:Nat)(sh:Sh)(cs:List AS):Option St:=
 match mem d S.pin with|true=>none|false=>match get S.tm d with|none=>some (S.Kb d sh cs)|some _=>some ((S.kill (FJ d)).Kb d sh (Ek (FJ d) cs))
def T1(l l':AS):Bool:=
 (match l.B7 with|some r=>isR l'.B7 r|none=>false)||(names l).any (λid=>F9 id l')||(names l').any (λid=>F9 id l)
def R7(l l':AS):Bool:=
 (match l.B7 with|some r=>isR l'.B7 r|none=>false)||(names l).any (λid=>F9 id l')
def xC:AS->Bool|.al _ _=>true|_=>false
def Ov:List AS->Bool
 | []=>true|l::ls=>(ls.all λl'=>!((xC l||xC l')&&(match l.B7 with|some r=>isR l'.B7 r|none=>l'.B7.isNone)))&&Ov ls
def St.out(S:St)(r:CJ):St:=(S.Bg r (.t .top)).kill (MC r)
def St.nl0(S:St)(r:CJ)(c:C):AS:=match r with|.cell id _=>(match mem id S.pin with|true=>.vw (.old id) c []|false=>.ow (.sl c []))|.tmp _ _=>.ow (.sl c [])
def St.turn(S:St)(r:CJ):St:=match S.at r with
 |some (.al r' none)=>match S.at r' with|some (.ow x)=>((S.out r').Bg r (.ow x)).Bg r' (.al r none)|some (.owh c xs hs)=>((S.out r').Bg r (.owh c xs hs)).Bg r' (.al r none)|_=>S
 |_=>S
def St.Z8(S:St)(r:CJ)(c:C):St:=match Nat.beq c.size 0 with
 |true=>S.turn r|false=>match S.at r with|some (.t .nil)=>S.Bg r (S.nl0 r c)|_=>S
def St.Rs(S:St):List (CJ×C)->St| []=>S|(r,c)::ns=>St.Rs (S.Z8 r c) ns
def KP:St->List AS->Option (St×List AS)
 |S,[]=>some (S,[])|S,l::ls=>match l with
  |.al r sub=>match S.at r with
   |some (.ow x)=>match KP (S.out r) ls with|some (S',ls')=>some (S',.ow (AG1 sub x)::ls')|none=>none
   |_=>none
  |l=>match KP S ls with|some (S',ls')=>some (S',l::ls')|none=>none
def Lh(S:St)(ls:List AS):Option (St×List AS):=if Ov ls=true then KP S ls else none
def tL(S:St)(x:YO)(ls:List AS):Option (St×List AS):=match x with|.tmp s=>(match mem s S.pin with|true=>some (S,ls)|false=>Lh S ls)|_=>Lh S ls
def SW:U->Bool|.top=>true|_=>false
def Zs:U->Bool|.top=>true|.un=>true|_=>false
def St.pull(S:St)(r:CJ)(i j:Nat):Option St:=
 match S.at r with
 |some (.ow (.sl c xs))=>some ((S.Bg r (.owh c xs [(i,j)])).kill (Fo r))|some (.owh c xs hs)=>some ((S.Bg r (.owh c xs (hs++[(i,j)]))).kill (Fo r))|_=>none
def onR(r:CJ):List AS->Bool| []=>false|l::ls=>isR l.B7 r||onR r ls
def Du:St->List AS->Option (St×List U)
 |S,[]=>some (S,[])|S,l::ls=>match l with
  |.t x=>if SW x=true then none else match Du S ls with|some (S',cs)=>some (S',x::cs)|none=>none
  |.al r sub=>match S.at r with
   |some (.ow x)=>match Du (S.out r) ls with|some (S',cs)=>some (S',AG1 sub x::cs)|none=>none
   |_=>none
  |.vw (.own r p) c xs=>match p with
   |none=>match S.at r with
    |some (.ow _)=>match Du (S.out r) ls with|some (S',cs)=>some (S',.sl c xs::cs)|none=>none
    |_=>none
   |some (i,j)=>if onR r ls=true then none else match S.pull r i j with
    |some S1=>match Du S1 ls with|some (S',cs)=>some (S',.sl c xs::cs)|none=>none
    |none=>none
  |_=>none
def St.Hn(S:St):AS->Option U
 |.t x=>some x|.al r sub=>match S.at r with|some (.ow x)=>some (AG1 sub x)|_=>none
 |.vw _ c xs=>some (.sl c xs)|.ow x=>some x|_=>none
def St.Hg(S:St):List AS->Option (List U)
 | []=>some []|l::ls=>match S.Hn l,S.Hg ls with|some x,some xs=>some (x::xs)|_,_=>none
def QC(k:Nat):AS->Option U|.t x=>some x|.vw (.old k') c xs=>if k'=k then some (.sl c xs) else none|_=>none
def F5(k:Nat):List AS->Option (List U)
 | []=>some []|l::ls=>match QC k l,F5 k ls with|some x,some xs=>some (x::xs)|_,_=>none
def De:List AS->Nat| []=>0|.vw (.old k) _ _::_=>k|_::ls=>De ls
def Ed(k:Nat):U->AS|.sl c xs=>.vw (.old k) c xs|.mp _=>.t .top|x=>.t x
def KN:U->AS|.sl c xs=>.ow (.sl c xs)|.mp ks=>.ow (.mp ks)|.nil=>.ow .nil|x=>.t x
def K9(s:Src):U->AS|.sl c xs=>.vw s c xs|.mp _=>.t .top|x=>.t x
def PX:List AS->Bool| []=>true|l::ls=>l.B7.isNone&&PX ls
def Rz:AS->Bool|.t _=>true|.al _ none=>true|.vw (.own _ (some _)) _ _=>true|_=>false
def AXm(S:St):Bool->Cap->Option (List U)
 |false,.t x=>some [x]|false,.vw _ c xs=>some [.sl c xs]|true,.bp id off=>match get S.bx id with|some ls=>if PX ls.cs=true then S.Hg (ls.cs.drop off) else none|none=>none
 |true,.vp _ cs=>some cs|_,_=>none
def AHY(S:St):(l:List (Bool×C))->List Cap->Option (su l)
 | [],[]=>some ()|(m,c)::r,l::ls=>match AXm S m l with
  |some us=>match ofC c us,AHY S r ls with|some x,some y=>some (x,y)|_,_=>none
  |none=>none
 |_,_=>none
section
variable(R:List GF)
def AXa(S:St)(c:C)(e:En):Option c.D:=match S.Hg e.cs with|some us=>ofC c us|none=>none
def AXY(S:St)(fs:List Nat)(l:List (Bool×C))(e:En):Option (su l):=
 match e with
 |⟨.one,[.fn n caps]⟩=>match fs with|n'::_=>if n'=n then AHY S l caps else none| []=>none
 |_=>none
def AXZ(S:St)(c:C)(e:En):Option c.D:=
 match e with
 |⟨.one,[.bp id off]⟩=>match get S.bx id with
  |some ls=>if PX ls.cs=true then match S.Hg (ls.cs.drop off) with|some us=>ofC c us|none=>none else none
  |none=>none
 |⟨.one,[.vp _ cs]⟩=>ofC c cs|_=>none
def AXX(S:St)(c:C)(e:En):Option c.D:=
 match e with
 |⟨.one,[.bp id 0]⟩=>match get S.bx id with
  |some ls=>match F5 (De ls.cs) ls.cs with|some us=>ofC c us|none=>none
  |none=>none
 |_=>none
def PK.FK:PK->Bool|.o _=>true|.m _=>true|_=>false
def PK.writes:PK->Bool|.b _=>true|.o _=>true|.m _=>true|_=>false
def Hl:List PK->List En->List AS|k::ks,e::es=>(if PK.FK k=true then e.cs else [])++Hl ks es|_,_=>[]
def AND:Sh->Sh->Bool|.one,.one=>true|.agg,.agg=>true|_,_=>false
def JZ(S:St):List Nat->(ks:List PK)->List En->List U->Option (A ks)
 |_,[],[],_=>some ()|fs,k::ks,e::es,us=>match k with
  |.o c=>if AND e.sh (shC c)=true then match ofC c (us.take e.cs.length),JZ S fs ks es (us.drop e.cs.length) with|some x,some y=>some (x,y)|_,_=>none else none
  |.m c=>if AND e.sh (shC c)=true/\e.cs.all Rz=true/\Gl e.sh e.cs.length=true then match ofC c (us.take e.cs.length),JZ S fs ks es (us.drop e.cs.length) with|some x,some y=>some (x,y)|_,_=>none else none
  |.f x l=>match AXY S fs l e,JZ S fs.tail ks es us with|some x,some y=>some (x,y)|_,_=>none
  |.v c=>if AND e.sh (shC c)=true then match AXa S c e,JZ S fs ks es us with|some x,some y=>some (x,y)|_,_=>none else none
  |.p c=>match AXZ S c e,JZ S fs ks es us with|some x,some y=>some (x,y)|_,_=>none
  |.b c=>match AXX S c e,JZ S fs ks es us with|some x,some y=>some (x,y)|_,_=>none
 |_,_,_,_=>none
def E4:St->List PK->List En->St
 |S,k::ks,e::es=>match k with
  |.b _=>match e with
   |⟨.one,[.bp id 0]⟩=>match get S.bx id with|some ls=>E4 (S.O1 id (ls.cs.map λ_=>.t .top)) ks es|none=>E4 S ks es
   |_=>E4 S ks es
  |_=>E4 S ks es
 |S,_,_=>S
def WL(S:St)(fs:List Nat)(ks:List PK)(es:List En):Option (St×A ks):=
 match Du S (Hl ks es) with
 |some (S1,us)=>match JZ S fs ks es us with|some a=>some (E4 S1 ks es,a)|none=>none
 |none=>none
def Hj{ρ:Type}:St->List AS->List U->(St->Option ρ)->Option ρ
 |S,[],[],K=>K S|S,l::ls,o::os,K=>match l with
  |.al r none=>Hj (S.Bg r (.ow o)) ls os K|.vw (.own r (some (i,j))) _ _=>match S.at r with
   |some (.owh c xs ((i',j')::hs))=>if j'=j/\hs.all (λp=>!Nat.beq p.2 j)=true then gd (i'=i) (bd xs[i]? λx=>match ofC c ((cells c x).set j o) with
    |some x'=>Hj ((S.Bg r (match hs with | []=>.ow (.sl c (xs.set i x'))|_=>.owh c (xs.set i x') hs)).kill (Fo r)) ls os K
    |none=>none)
    else none
   |_=>none
  |.t _=>Hj S ls os K|_=>none
 |_,_,_,_=>none
def F4{ρ:Type}(S0:St):St->List PK->List En->List (List U)->(St->Option ρ)->Option ρ
 |S,[],_,[],K=>K S|S,k::ks,e::es,outs,K=>match k with
  |.b _=>match e,outs with
   |⟨.one,[.bp id 0]⟩,o::outs=>match get S0.bx id,get S.bx id with|some ls,some ls1=>if o.length=ls1.cs.length then F4 S0 (S.O1 id (o.map (Ed (De ls.cs)))) ks es outs K else none|_,_=>none
   |_,_=>none
  |.m _=>match outs with|o::outs=>Hj S e.cs o λS'=>F4 S0 S' ks es outs K|_=>none
  |_=>F4 S0 S ks es outs K
 |_,_,_,_,_=>none
def shares(e e':En):Bool:=e.cs.any λl=>e'.cs.any λl'=>T1 l l'
def QF:List En->List PK->List En->Bool|prev,k::ks,e::es=>(PK.writes k&&(prev.any (shares e)||es.any (shares e)))||QF (e::prev) ks es|_,_,_=>false
def AGw:Option En->Option U|some ⟨.one,[.t x]⟩=>some x|_=>none
def St.sc(S:St)(x:YO):Option U:=AGw (S.rd x)
def AZK:U->Option Int|.int _ n=>some n|.u8 x=>some (x.toNat:Int)|_=>none
def St.nat(S:St)(x:YO):Option Int:=match S.sc x with|some u=>AZK u|none=>none
def St.one(S:St)(x:YO):Option AS:=match S.rd x with|some ⟨.one,[l]⟩=>some l|_=>none
def eqU:Kd->U->U->Option Bool|.i,.int k a,.int k' b=>if k=k' then some (a==b) else none|.b,.bool a,.bool b=>some (a==b)|.s,.str a,.str b=>some (a==b)|_,_,_=>none
def ACY:List Kd->List U->List U->Option Bool
 | [],[],[]=>some true|k::ks,a::as,b::bs=>match eqU k a b,ACY ks as bs with|some x,some y=>some (x&&y)|_,_=>none
 |_,_,_=>none
def WD:List AS->Option (List U)
 | []=>some []|.t x::ls=>match WD ls with|some us=>some (x::us)|none=>none
 |_=>none
section
variable{ρ:Type}
def gdc(cst:Bool)(p:Prop) [Decidable p] (x:Option ρ):Option ρ:=match cst with|true=>if p then x else none|false=>gd p x
def AX3(cst:Bool)(op:BinOp)(k:IntKind)(a b:Int)(K:U->Option ρ):Option ρ:=
 match op with
 |.add=>K (.int k (k.wrap (a+b)))|.sub=>K (.int k (k.wrap (a-b)))|.mul=>K (.int k (k.wrap (a*b)))|.quo=>gdc cst (b≠0) (K (.int k (k.wrap (a.tdiv b))))|.rem=>gdc cst (b≠0) (K (.int k (a.tmod b)))|.and=>K (.int k (k.wrap (BitVec.ofInt k.bits a &&& BitVec.ofInt k.bits b).toNat))|.or=>K (.int k (k.wrap (BitVec.ofInt k.bits a |||BitVec.ofInt k.bits b).toNat))|.xor=>K (.int k (k.wrap (BitVec.ofInt k.bits a ^^^ BitVec.ofInt k.bits b).toNat))|.eql=>K (.bool (a==b))|.neq=>K (.bool (a != b))|.lss=>K (.bool (decide (a<b)))|.leq=>K (.bool (decide (a<=b)))|.gtr=>K (.bool (decide (a>b)))|.geq=>K (.bool (decide (a>=b)))|_=>none
def shU(cst:Bool)(op:BinOp)(k:IntKind)(a b:Int)(K:U->Option ρ):Option ρ:=
 match op with
 |.shl=>gdc cst (¬b<0) (K (.int k (k.wrap (a*2 ^ (min b.toNat k.bits)))))|.shr=>gdc cst (¬b<0) (K (.int k (a.fdiv (2 ^ (min b.toNat k.bits)))))|_=>none
def byU(op:BinOp)(a b:Int)(K:U->Option ρ):Option ρ:=
 match op with
 |.add=>K (.u8 (toB (a+b)))|.sub=>K (.u8 (toB (a-b)))|.mul=>K (.u8 (toB (a*b)))|.and=>K (.u8 (toB (BitVec.ofInt IntKind.u8.bits a &&& BitVec.ofInt IntKind.u8.bits b).toNat))|.or=>K (.u8 (toB (BitVec.ofInt IntKind.u8.bits a |||BitVec.ofInt IntKind.u8.bits b).toNat))|.xor=>K (.u8 (toB (BitVec.ofInt IntKind.u8.bits a ^^^ BitVec.ofInt IntKind.u8.bits b).toNat))|.eql=>K (.bool (a==b))|.neq=>K (.bool (a != b))|.lss=>K (.bool (decide (a<b)))|.leq=>K (.bool (decide (a<=b)))|.gtr=>K (.bool (decide (a>b)))|.geq=>K (.bool (decide (a>=b)))|_=>none
def AV3:BinOp->Bool|.shl=>true|.shr=>true|_=>false
def AXf(cst:Bool)(op:BinOp):U->U->(U->Option ρ)->Option ρ
 |.int k a,.int k' b,K=>if AV3 op=true then shU cst op k a b K else if k=k' then (if k=.u8 then none else AX3 cst op k a b K) else none|.int k a,.u8 b,K=>if AV3 op=true then shU cst op k a b.toNat K else none|.u8 a,.u8 b,K=>byU op a.toNat b.toNat K|.str a,.str b,K=>match op with|.add=>gd (a.length+b.length<=P1) (K (.str (a++b)))|.eql=>K (.bool (a==b))|.neq=>K (.bool (a != b))|_=>none
 |_,_,_=>none
def eqK(op:BinOp)(b:Bool)(K:U->Option ρ):Option ρ:=match op with|.eql=>K (.bool b)|.neq=>K (.bool !b)|_=>none
def St.Vu(S:St)(l:AS)(K:Bool->Option ρ):Option ρ:=
 match l with
 |.t .nil=>K true|.vw _ _ xs=>gd (xs.isEmpty=false) (K false)|.al r none=>match S.at r with|some (.ow .nil)=>K true|some (.ow (.sl _ xs))=>gd (xs.isEmpty=false) (K false)|_=>none
 |_=>none
def St.bin(S:St)(cst:Bool)(c:Cls)(op:BinOp)(x y:En)(K:U->Option ρ):Option ρ:=
 match c with
 |.num=>match x,y with|⟨.one,[.t a]⟩,⟨.one,[.t b]⟩=>AXf cst op a b K|_,_=>none
 |.bool=>match x,y with|⟨.one,[.t (.bool a)]⟩,⟨.one,[.t (.bool b)]⟩=>eqK op (a==b) K|_,_=>none
 |.sl=>match x,y with|⟨.one,[l]⟩,⟨.one,[.t .nil]⟩=>S.Vu l λb=>eqK op b K|_,_=>none
 |.agg ks=>match x,y with
  |⟨.agg,as⟩,⟨.agg,bs⟩=>match WD as,WD bs with
   |some as,some bs=>match ACY ks as bs with|some b=>eqK op b K|none=>none
   |_,_=>none
  |_,_=>none
def unU(op:UnOp)(x:U)(K:U->Option ρ):Option ρ:=
 match x with
 |.bool b=>match op with|.not=>K (.bool !b)|_=>none
 |.int k n=>match op with|.neg=>if k=.u8 then none else K (.int k (k.wrap (0-n)))|_=>none
 |_=>none
def mkInt(k:IntKind)(n:Int):U:=match k with|.u8=>.u8 (toB n)|k=>.int k (k.wrap n)
end
def AW4:List U->Bool| []=>true|.sl _ _::_=>false|.top::_=>false|.mp _::_=>false|_::us=>AW4 us
def U7:C->Bool
 |.l _=>false|.m=>false|.st n=>match AXQ n with|some z=>AW4 (AEc n z)|none=>false
 |.un _=>false|_=>true
def AVC(c:C)(x:U)(ys:List c.D):Option U:=
 match x with
 |.sl c' xs=>if h:c'=c then some (.sl c ((h▸xs)++ys)) else none|_=>some (.sl c ys)
def P6(c:C)(fl:Bool)(S:St)(l:AS):Option (St×List c.D):=
 match l with
 |.t (.str s)=>match Rw.as c (.of .u s) with|some xs=>some (S,xs)|none=>none
 |.t .nil=>some (S,[])|.vw _ c' xs=>if U7 c=true then match Rw.as c (.of c' xs) with|some ys=>some (S,ys)|none=>none else none
 |.al r sub=>match S.at r with
  |some (.ow x)=>match content x with
   |some w=>match Rw.as c (w.sub sub) with|some ys=>if fl=true then (if U7 c=true then some (S,ys) else none) else some (S.out r,ys)|none=>none
   |none=>none
  |_=>none
 |_=>none
def SP(c:C)(S:St)(l:AS):Option (St×U×Nat×Option (Nat×Nat)):=
 match l with
 |.t .nil=>some (S,.nil,0,none)|.al r sub=>match S.at r with
  |some (.ow x)=>match content x with
   |some w=>match Rw.as c w with
    |some xs=>some (S.out r,AG1 sub x,(nL sub xs).length,match sub with|none=>none|some (lo,n)=>some (lo+n,xs.length))
    |none=>none
   |none=>none
  |_=>none
 |.vw (.own r (some (i,j))) c' xs=>if c'=c then match S.pull r i j with|some S'=>some (S',.sl c' xs,xs.length,none)|none=>none else none
 |_=>none
def gdo{γ:Type}(p:Option (Nat×Nat))(x:Option γ):Option γ:=match p with|none=>x|some (a,b)=>gd (a=b) x
def NF(off:Nat):AS->Option AS|.bp id o=>some (.bp id (o+off))|.ep r i j=>some (.ep r i (j+off))|.vp s cs=>some (.vp s (cs.drop off))|_=>none
def J9(r:CJ)(i:Nat):Nat->List U->List AS|_,[]=>[]|j,x::xs=>K9 (.own r (some (i,j))) x::J9 r i (j+1) xs
def RF(b:Nat):Nat->List AS->List AS|_,[]=>[]|c,.ow _::ls=>.al (.cell b c) none::RF b (c+1) ls|c,.owh _ _ _::ls=>.al (.cell b c) none::RF b (c+1) ls|c,l::ls=>l::RF b (c+1) ls
def IZ(b o n:Nat)(l:AS):Bool:=match l.B7 with|some (.cell b' c)=>Nat.beq b' b&&Nat.ble o c&&Nat.blt c (o+n)|_=>false
def IQ:List AS->Bool| []=>false|.t .top::_=>true|.und::_=>true|_::ls=>IQ ls
def SV:AS->Bool|.bp _ _=>true|.ep _ _ _=>true|.vp _ _=>true|_=>false
section
variable{ρ:Type}
def St.load(S:St)(n:Nat)(l:AS)(K:List AS->Option ρ):Option ρ:=
 match l with
 |.bp id o=>match get S.bx id with|some ls=>if o+n<=ls.cs.length then K (RF id o ((ls.cs.drop o).take n)) else none|none=>none
 |.ep r i j=>match S.at r with|some (.ow (.sl c xs))=>bd (at? xs i) λx=>if j+n<=(cells c x).length then K (J9 r i.toNat j (((cells c x).drop j).take n)) else none|_=>none
 |.vp s cs=>if n<=cs.length then K ((cs.take n).map (K9 s.up)) else none|_=>none
def Pr(i j n:Nat):List (Nat×Nat)->Prop| []=>True|(i',j')::hs=>i'=i/\(j<=j'/\j'<j+n)/\Pr i j n hs
def dV(i j n:Nat):(hs:List (Nat×Nat))->Decidable (Pr i j n hs)| []=>.isTrue trivial|(i',j')::hs=>@instDecidableAnd _ _ (instDecidableEqNat i' i) (@instDecidableAnd _ _ (@instDecidableAnd _ _ (Nat.decLe j j') (Nat.decLt j' (j+n))) (dV i j n hs))
def Yq(n:Nat)(S:St)(ls:List AS):Option (St×List AS):=match Nat.blt n 1048576 with|true=>Lh S ls|false=>some (S,ls)
def St.SF(S:St)(n:Nat)(p:AS)(cs:List AS)(K:St->Option ρ):Option ρ:=
 match p with
 |.bp id o=>match Yq n S cs with
  |some (S',cs')=>if IQ cs'=true then none else
   let S2:=S'.kill (IZ id o cs'.length)
   match get S2.bx id with
   |some ls=>if o+cs'.length<=ls.cs.length then K (S2.O1 id (D6 ls.cs o (Ek (IZ id o cs'.length) cs'))) else none|none=>none
  |none=>none
 |.ep r i j=>match Du S cs with
  |some (S',us)=>match S'.at r with
   |some (.ow (.sl c xs))=>bd (at? xs i) λx=>if j+us.length<=(cells c x).length then match ofC c (D6 (cells c x) j us) with
    |some x'=>K ((S'.Bg r (.ow (.sl c (xs.set i.toNat x')))).kill (Fo r))|none=>none
    else none
   |some (.owh c xs hs)=>bd (at? xs i) λx=>if j+us.length<=(cells c x).length then match ofC c (D6 (cells c x) j us) with
    |some x'=>@gd _ (Pr i.toNat j us.length hs) (dV i.toNat j us.length hs) (K ((S'.Bg r (.ow (.sl c (xs.set i.toNat x')))).kill (Fo r)))|none=>none
    else none
   |_=>none
  |none=>none
 |_=>none
end
def M0(S:St):List AS->List (Nat×Nat×YO)->Option (List AS)
 |ls,[]=>some ls|ls,(o,n,x)::ps=>match S.rd x with|some e=>if e.cs.length=n/\Gl e.sh n=true/\IQ e.cs=false/\o+n<=ls.length then M0 S (D6 ls o e.cs) ps else none|none=>none
def ACw(i n:Nat):List (Nat×YO)->Bool| []=>i==n|(k,_)::ps=>k==i&&ACw (i+1) n ps
def bsL(c:C)(n:Nat):St->List (Nat×YO)->Option (St×List c.D)
 |S,[]=>some (S,[])|S,(i,x)::ps=>match S.rd x with
  |some e=>if e.cs.length=c.size/\Gl e.sh e.cs.length=true/\i<n then match Du S e.cs with
   |some (S',us)=>match ofC c us,bsL c n S' ps with|some y,some (S2,ys)=>some (S2,y::ys)|_,_=>none
   |none=>none
   else none
  |none=>none
def bsK(c:C)(n:Nat):St->List c.D->List (Nat×YO)->Option (St×List c.D)
 |S,xs,[]=>some (S,xs)|S,xs,(i,x)::ps=>match S.rd x with
  |some e=>if e.cs.length=c.size/\Gl e.sh e.cs.length=true/\i<n then match Du S e.cs with
   |some (S',us)=>match ofC c us with|some y=>bsK c n S' (xs.set i y) ps|none=>none
   |none=>none
   else none
  |none=>none
def ACx:Sh->Bool|.one=>true|_=>false
def St.wide(S:St)(c:C):AS->Bool
 |.vw _ c' _=>decide (c'=c)|.al r _=>match S.at r with
  |some (.ow x)=>match x with|.sl c' _=>decide (c'=c)|_=>true
  |some (.owh c' _ _)=>decide (c'=c)|_=>false
 |_=>true
inductive YOp where
 |mv(d:Nat)(x:YO)|as(d:Nat)(x:YO)|pick(d:Nat)(c a b:YO)|alloc(d:Nat)(zs:List U)|box(d:Nat)(x:YO)|build(d:Nat)(zs:List U)(parts:List (Nat×Nat×YO))|CA(d:Nat)(n:Nat)(c:C)(parts:List (Nat×YO))|ld(d:Nat)(n:Option Nat)(x:YO)|st(n:Nat)(x v:YO)|chk(d:Nat)(x:YO)|bin(d:Nat)(c:Cls)(op:BinOp)(x y:YO)|un(d:Nat)(op:UnOp)(x:YO)|cvI(d:Nat)(k:IntKind)(x:YO)|NW(d:Nat)(x:YO)|Pj(d:Nat)(x:YO)|Ng(d:Nat)(n:Nat)(caps:List YO)|Sb(d:Nat)(c:C)(n:YO)|sub(d:Nat)(c:C)(x:YO)(lo hi:Option YO)|WB(d:Nat)(x:YO)(lo hi:Option YO)|fa(d:Nat)(off:Nat)(x:YO)|fld(d:Nat)(off:Nat)(n:Option Nat)(x:YO)|ia(d:Nat)(c:C)(x i:YO)|ix(d:Nat)(x i:YO)|ext(d:Nat)(x:YO)(i:Nat)|call (d:Nat) (g:GF) (fs:List Nat) (hf:fs.map (λn=>(R[n]?).map GF.x)=(fX g.ps).map some) (args:List YO)|ED(d:Nat)(x:YO)(ms:List Md)(args:List YO)|len(d:Nat)(x:YO)|lens(d:Nat)(x:YO)|app(d:Nat)(c:C)(fl:Bool)(x y:YO)|Sg(d:Nat)(c:C)(x n:YO)|cpy(d:Nat)(c:C)(x y:YO)|mm(d:Nat)(isMax:Bool)(x y:YO)|mmk(d:Nat)|Uv(d:Nat)(x k:YO)|Tl(x k v:YO)|Uw(d:Nat)(x:YO)|bad(d:Option Nat)|drop(ds:List Nat)|Qn(ns:List (CJ×C))
section
variable {R} {ρ:Type}
def range(S:St)(len:Nat)(lo hi:Option YO)(K:Nat->Nat->Option ρ):Option ρ:=
 match lo,hi with
 |none,none=>K 0 len|some x,none=>match S.nat x with|some a=>gd (0<=a/\a<=(len:Int)) (K a.toNat len)|none=>none
 |none,some y=>match S.nat y with|some b=>gd (0<=b/\b<=(len:Int)) (K 0 b.toNat)|none=>none
 |some x,some y=>match S.nat x,S.nat y with|some a,some b=>gd (0<=a/\a<=b/\b<=(len:Int)) (K a.toNat b.toNat)|_,_=>none
def part{α:Type}(lo hi:Option YO)(xs:List α)(a b:Nat):List α:=
 match lo,hi with
 |none,none=>xs|some _,none=>xs.drop a|none,some _=>xs.take b|some _,some _=>(xs.drop a).take (b-a)
def AWP{α γ:Type}(s:Nat)(a:α):List (Nat×α)->(List (Nat×α)->γ)->γ
 | [],K=>K [(s,a)]|(k,b)::r,K=>match Nat.beq s k with
  |true=>K ((s,a)::r)|false=>match Nat.ble s k with|true=>K ((s,a)::(k,b)::r)|false=>AWP s a r λr=>K ((k,b)::r)
def Ho(S:St)(d:Nat)(sh:Sh)(cs:List AS)(K:St->Option ρ):Option ρ:=
 match mem d S.pin with
 |true=>none|false=>match get S.tm d with|none=>dR sh λsh=>UX cs λcs=>DX S.nv λv=>AWP d ⟨sh,cs,v⟩ S.tm λtm=>K ⟨tm,S.bx,S.pin,v+1⟩|some _=>((S.kill (FJ d)).Kb d sh (Ek (FJ d) cs)).GW K
def lR(S:St)(e:En):Option Nat:=
 match e with
 |⟨.one,[.bp id _]⟩=>match get S.bx id with|some ls=>if (F5 (De ls.cs) ls.cs).isSome=true then some (De ls.cs) else none|none=>none
 |e=>if (F5 (De e.cs) e.cs).isSome=true then some (De e.cs) else none
def lS(ks:List PK)(S0:St)(es:List En)(k:Nat):Option Nat:=
 match es[k]? with
 |some e=>match ks[k]? with|some (.p _)=>none|_=>lR S0 e
 |none=>none
def Qm(S:St)(d:Nat)(ls:List AS)(K:St->Option ρ):Option ρ:=
 match mem d S.pin with|true=>none|false=>K (((S.kill (λl=>FJ d l||F9 d l)).Kb d .one [.bp d 0]).O1 d ls)
def Sk:(cs:List C)->Tu cs->List (List U)| [],_=>[]| [c],x=>[cells c x]|c::c'::cs,x=>cells c x.1::Sk (c'::cs) x.2
def post(d:Nat)(g:GF)(es:List En)(S0 S:St)(r:Tu (g.rk.cs++ME g.ps))(K:St->Option ρ):Option ρ:=
 F4 S0 S g.ps es ((Sk _ r).drop g.rk.cs.length) λS'=>
  match g.rk with
  |.ptr k _=>match lS g.ps S0 es k with|some lab=>Qm S' d (((Sk _ r).take g.rk.cs.length).flatten.map (Ed lab)) K|none=>none
  |.vw k _=>match lS g.ps S0 es k with|some lab=>Ho S' d .one (((Sk _ r).take g.rk.cs.length).flatten.map (Ed lab)) K|none=>none
  |.ret cs=>Ho S' d (ADv (cs.map wC)) (((Sk _ r).take g.rk.cs.length).flatten.map KN) K
def AHX(d:Nat)(g:GF)(fs:List Nat)(es:List En)(S:St)(K:St->Option ρ):Option ρ:=
 match QF [] g.ps es with
 |true=>none|false=>match WL S fs g.ps es with|some (S1,a)=>bd (g.d a) λr=>post d g es S S1 r K|none=>none
def s9(es:List En):Option (List Cap):=
 match es with
 | []=>some []|⟨.one,[l]⟩::es=>match l.AXl,s9 es with|some c,some cs=>some (c::cs)|_,_=>none
 |_=>none
def St.Qj(S:St)(x:YO):Option (CJ×List (Int×Int)):=
 match S.one x with
 |some (.al r none)=>match S.at r with|some (.ow (.mp ks))=>some (r,ks)|_=>none
 |_=>none
def ev(o:YOp R)(S:St)(K:St->Option ρ):Option ρ:=
 match o with
 |.mv d x=>match S.rd x with|some e=>Ho S d e.sh e.cs K|none=>none
 |.as d x=>match S.rd x with
  |some e=>match Lh S e.cs with|some (S',cs)=>Ho S' d e.sh cs K|none=>none
  |none=>none
 |.pick d c a b=>match S.sc c,S.rd a,S.rd b with|some (.bool t),some ea,some eb=>br t (Ho S d ea.sh ea.cs K) (Ho S d eb.sh eb.cs K)|_,_,_=>none
 |.alloc d zs=>Qm S d (zs.map .t) K|.box d x=>match S.rd x with
  |some e=>match tL S x e.cs with
   |some (S1,cs)=>if IQ cs=true\/Gl e.sh e.cs.length=false then none else
    Qm S1 d (Ek (λl=>FJ d l||F9 d l) cs) K
   |none=>none
  |none=>none
 |.build d zs parts=>match M0 S (zs.map .t) parts with|some ls=>Ho S d .agg ls K|none=>none
 |.CA d n c parts=>match AER c with
  |some z=>if n*c.size<=16777216 then match (if ACw 0 n parts=true then bsL c n S parts else bsK c n S (List.replicate n z) parts) with
   |some (S',xs)=>Ho S' d .one [.ow (.sl c xs)] K|none=>none
   else none
  |none=>none
 |.ld d n x=>match S.one x with|some p=>S.load (Dj n) p λls=>Ho S d (shN n) ls K|none=>none
 |.st n x v=>match S.one x,S.rd v with|some p,some e=>if e.cs.length=n % 1048576/\Gl e.sh (n % 1048576)=true then S.SF n p e.cs K else none|_,_=>none
 |.chk d x=>match S.one x with|some p=>if SV p=true then Ho S d .one [p] K else none|none=>none
 |.bin d c op x y=>match S.rd x,S.rd y with
  |some ex,some ey=>S.bin (match y with|.k _=>true|_=>false) c op ex ey λt=>Ho S d .one [.t t] K
  |_,_=>none
 |.un d op x=>match S.sc x with|some a=>unU op a λt=>Ho S d .one [.t t] K|none=>none
 |.cvI d k x=>match S.nat x with|some n=>Ho S d .one [.t (mkInt k n)] K|none=>none
 |.NW d x=>match S.sc x with|some (.str s)=>Ho S d .one [.ow (.sl .u s)] K|_=>none
 |.Pj d x=>match S.one x with
  |some l=>match S.elems l with
   |some w=>match Rw.as .u w with|some bs=>Ho S d .one [.t (.str bs)] K|none=>none
   |none=>none
  |none=>none
 |.Ng d n caps=>match S.rds caps with
  |some es=>match s9 es with|some cs=>Ho S d .one [.fn n cs] K|none=>none
  |none=>none
 |.Sb d c n=>match S.nat n with
  |some n=>match AER c with|some z=>gd (0<=n/\n<=(lim:Int)) (Ho S d .one [.ow (.sl c (List.replicate n.toNat z))] K)|none=>none
  |none=>none
 |.WB d x lo hi=>match S.sc x with|some (.str s)=>range S s.length lo hi λa b=>Ho S d .one [.t (.str (part lo hi s a b))] K|_=>none
 |.sub d c x lo hi=>match S.one x with
  |some l=>if S.wide c l=true then match l with
   |.al r sub=>match S.elems l with
    |some w=>match Rw.as c w with
     |some xs=>range S xs.length lo hi λa b=>Ho S d .one [.al r (some (match sub with|none=>(a,b-a)|some (lo0,_)=>(lo0+a,b-a)))] K
     |none=>none
    |none=>none
   |.vw s c' xs=>range S xs.length lo hi λa b=>Ho S d .one [.vw s.up c' (part lo hi xs a b)] K|.t .nil=>range S 0 lo hi λ_ _=>Ho S d .one [.t .nil] K|_=>none
   else none
  |none=>none
 |.fa d off x=>match S.one x with
  |some p=>match NF off p with|some q=>Ho S d .one [q] K|none=>none
  |none=>none
 |.fld d off n x=>match S.rd x with|some ⟨.agg,cs⟩=>if off+Dj n<=cs.length then Ho S d (shN n) ((cs.drop off).take (Dj n)) K else none|_=>none
 |.ia d c x i=>match S.one x,S.nat i with
  |some l,some n=>if S.wide c l=true then match l with
   |.al r sub=>match S.elems l with
    |some (.of _ xs)=>bd (at? xs n) λ_=>Ho S d .one [.ep r (match sub with|none=>n|some (lo,_)=>(lo:Int)+n) 0] K
    |_=>match sub with
     |none=>match S.at r with|some (.owh _ xs _)=>bd (at? xs n) λ_=>Ho S d .one [.ep r n 0] K|_=>none
     |_=>none
   |.vw s c' xs=>bd (at? xs n) λx=>Ho S d .one [.vp s.up (cells c' x)] K|_=>none
   else none
  |_,_=>none
 |.ix d x i=>match S.sc x,S.nat i with|some (.str s),some n=>bd (at? s n) λx=>Ho S d .one [.t (.u8 x)] K|_,_=>none
 |.ext d x i=>match x with
  |.tmp s=>match get S.tm s with
   |some ⟨.tup ns,cs,_⟩=>match ns[i]? with
    |some n=>
     let o:=Ux (ns.take i)
     if o+Dj n<=cs.length then match Lh S (((Sf s 0 cs).drop o).take (Dj n)) with|some (S',ls)=>Ho S' d (shN n) ls K|none=>none
     else none
    |none=>none
   |_=>none
  |_=>none
 |.lens d x=>match S.sc x with|some (.str s)=>Ho S d .one [.t (.int .i64 s.length)] K|_=>none
 |.len d x=>match S.one x with
  |some l=>match S.elems l with|some (.of _ xs)=>Ho S d .one [.t (.int .i64 xs.length)] K|some .nl=>Ho S d .one [.t (.int .i64 0)] K|none=>none
  |none=>none
 |.app d c fl x y=>match S.one x,S.one y with
  |some lx,some ly=>match P6 c fl S ly with
   |some (S1,ys)=>match SP c S1 lx with
    |some (S2,b,n,e)=>gdo e (gd (n+ys.length<=lim) (match AVC c b ys with|some u=>Ho S2 d .one [.ow u] K|none=>none))
    |none=>none
   |none=>none
  |_,_=>none
 |.Sg d c x n=>match S.one x,S.nat n,AER c with
  |some lx,some k,some z=>gd (0<=k/\k<=(lim:Int)) (match SP c S lx with
   |some (S2,b,n,e)=>gdo e (gd (n+k.toNat<=lim) (match AVC c b (List.replicate k.toNat z) with|some u=>Ho S2 d .one [.ow u] K|none=>none))
   |none=>none)
  |_,_,_=>none
 |.cpy d c x y=>match S.one x,S.one y with
  |some (.al r none),some ly=>match S.at r,S.elems ly with
   |some (.ow (.sl c' xs)),some w=>match Rw.as c w,Rw.as c (.of c' xs) with
    |some ys,some xs=>if S.wide c ly=true/\U7 c=true then
     gd (xs.isEmpty=false) (Ho ((S.Bg r (.ow (.sl c (ys.take xs.length++xs.drop ys.length)))).kill (Fo r)) d .one [.t (.int .i64 (min ys.length xs.length:Nat))] K)
     else none
    |_,_=>none
   |_,_=>none
  |_,_=>none
 |.mm d isMax x y=>match S.sc x,S.sc y with|some (.int k a),some (.int k' b)=>if k'=k then Ho S d .one [.t (.int k (if isMax=true then (if b>a then b else a) else (if b<a then b else a)))] K else none|_,_=>none
 |.mmk d=>Ho S d .one [.ow (.mp [])] K|.Uv d x k=>match S.Qj x,S.sc k with|some (_,ks),some (.int .i64 n)=>Ho S d .one [.t (.int .i64 (NA ks n))] K|_,_=>none
 |.Tl x k v=>match S.Qj x,S.sc k,S.sc v with|some (r,ks),some (.int .i64 n),some (.int .i64 m)=>K ((S.Bg r (.ow (.mp (KA ks n m)))).kill (Fo r))|_,_,_=>none
 |.Uw d x=>match S.Qj x with|some (_,ks)=>Ho S d .one [.t (.int .i64 ks.length)] K|none=>none
 |.bad _=>none|.drop ds=>K (S.Im ds)|.Qn ns=>K (S.Rs ns)|.call d g fs _ args=>match S.rds args with|some es=>AHX d g fs es S K|none=>none
 |.ED d x ms args=>match S.one x,S.rds args with
  |some (.fn n caps),some es=>match R[n]? with|some g=>if g.ps.map PK.md=ms then AHX d g [] (es++caps.map λl=>⟨.one,[l.leaf]⟩) S K else none|none=>none
  |_,_=>none
def YOp.kP:YOp R->Option Nat|.mv d _=>some d|.as d _=>some d|.pick d _ _ _=>some d|.alloc d _=>some d|.box d _=>some d|.build d _ _=>some d|.CA d _ _ _=>some d|.ld d _ _=>some d|.chk d _=>some d|.bin d _ _ _ _=>some d|.un d _ _=>some d|.cvI d _ _=>some d|.NW d _=>some d|.Pj d _=>some d|.Ng d _ _=>some d|.Sb d _ _=>some d|.sub d _ _ _ _=>some d|.WB d _ _ _=>some d|.fa d _ _=>some d|.fld d _ _ _=>some d|.ia d _ _ _=>some d|.ix d _ _=>some d|.ext d _ _=>some d|.call d _ _ _ _=>some d|.ED d _ _ _=>some d|.len d _=>some d|.lens d _=>some d|.app d _ _ _ _=>some d|.Sg d _ _ _=>some d|.cpy d _ _ _=>some d|.mm d _ _ _=>some d|.mmk d=>some d|.Uv d _ _=>some d|.Uw d _=>some d|.Tl _ _ _=>none|.bad d=>d|.st _ _ _=>none|.drop _=>none|.Qn _=>none
def YOp.simple:YOp R->Bool|.mv _ _=>true|.as _ _=>true|.pick _ _ _ _=>true|.ld _ _ _=>true|.chk _ _=>true|.bin _ _ _ _ _=>true|.un _ _ _=>true|.cvI _ _ _=>true|.NW _ _=>true|.Pj _ _=>true|.Sb _ _ _=>true|.sub _ _ _ _ _=>true|.WB _ _ _ _=>true|.fa _ _ _=>true|.fld _ _ _ _=>true|.ia _ _ _ _=>true|.ix _ _ _=>true|.len _ _=>true|.lens _ _=>true|.mm _ _ _ _=>true|.mmk _=>true|.Uv _ _ _=>true|.Uw _ _=>true|.call _ g _ _ _=>!(g.ps.any PK.writes)|_=>false
def Ms(o:YOp R)(S:St)(K:St->Option ρ):Option ρ:=match o.kP with|some d=>Ho S d .one [.und] K|none=>K S
def reE(s:Nat)(e:Ent):List (Nat×Ent)->List (Nat×Ent)
 | []=>[]|(k,x)::r=>match Nat.beq k s with|true=>(k,e)::r|false=>(k,x)::reE s e r
def St.lit(S:St)(s:Nat)(b:Bool):St:=⟨reE s ⟨.one,[.t (.bool b)],S.nv⟩ S.tm,S.bx,S.pin,S.nv+1⟩
def mK(w:Bool)(o:YOp R)(S:St)(f:Option ρ)(K:St->Option ρ):Option ρ:=match w with|true=>f|false=>Ms o S K
def evg(g:Option (Nat×Bool))(o:YOp R)(S:St)(K:St->Option ρ):Option ρ:=
 match g with
 |none=>ev o S K|some (s,w)=>match get S.tm s with
  |some ⟨.one,[.t (.bool b)],_⟩=>
   br b (mK w o (S.lit s true) (ev o (S.lit s true) K) K) (mK (!w) o (S.lit s false) (ev o (S.lit s false) K) K)
  |some ⟨.one,[.und],_⟩=>Ms o S K|_=>none
def evs:List (Option (Nat×Bool)×YOp R)->St->(St->Option ρ)->Option ρ
 | [],S,K=>K S|(g,o)::r,S,K=>match o.simple with|true=>evg g o S λS'=>evs r S' K|false=>evg g o S λS'=>S'.GW λS'=>evs r S' K
def YOp.wr:YOp R->Option YO|.app _ _ _ x _=>some x|.Sg _ _ x _=>some x|.cpy _ _ x _=>some x|.Tl x _ _=>some x|_=>none
def KY(l:AS):List PK->List En->Bool|k::ks,e::es=>(!PK.writes k||e.cs.all λl'=>!R7 l' l)&&KY l ks es|_,_=>true
def St.OT(S:St):AS->Bool
 |.bp id _=>(get S.bx id).isSome|.ep _ _ _=>true|.vp _ cs=>!cs.isEmpty|.al r _=>match S.at r with|some (.ow x)=>!Zs x|_=>false
 |.vw (.own _ _) _ _=>true|.t .nil=>true|_=>false
def VI(o:YOp R)(S:St)(l:AS):Bool:=
 S.OT l&&match o with
  |.st _ x _=>match S.one x with|some (.bp id _)=>!mem id (names l)|some (.ep r _ _)=>!isR l.B7 r|_=>false
  |.call _ g _ _ args=>match S.rds args with|some es=>KY l g.ps es|none=>false
  |.ED _ x ms args=>match S.one x,S.rds args with
   |some (.fn n caps),some es=>match R[n]? with|some g=>if g.ps.map PK.md=ms then KY l g.ps (es++caps.map λl=>⟨.one,[l.leaf]⟩) else false|none=>false
   |_,_=>false
  |o=>match o.wr with
   |some y=>match S.one y with
    |some lt=>l.B7.isNone||!(match l.B7 with|some r=>isR lt.B7 r|none=>lt.B7.isNone)
    |none=>false
   |none=>true
def KO(o:YOp R)(S:St):List Nat->Bool
 | []=>true|s::ss=>(match S.one (.tmp s) with|some l=>VI o S l|none=>false)&&KO o S ss
end
abbrev ifB{γ:Type}(b:Bool)(x:Option γ):Option γ:=match b with|true=>x|false=>none
theorem AX1{γ:Type}{b:Bool}{x:Option γ}:ifB b x=if b=true then x else none:=by cases b<;>rfl
def ba{α:Type}(k:Nat):List (Nat×α)->Bool
 | []=>false|(j,_)::r=>match Nat.beq j k with|true=>true|false=>ba k r
def mB{α:Type}:List (Nat×α)->Bool| []=>true|(k,_)::r=>(!ba k r)&&mB r
def ALG:List (Option Nat)->List (Option Nat)->Bool| [],[]=>true|none::r,none::r'=>ALG r r'|some a::r,some b::r'=>Nat.beq a b&&ALG r r'|_,_=>false
def AXw:Sh->Sh->Bool|.one,.one=>true|.agg,.agg=>true|.tup a,.tup b=>ALG a b|.ptr a,.ptr b=>Nat.beq a b|.vw a,.vw b=>Nat.beq a b|_,_=>false
def AJf:Option (Nat×Nat)->Option (Nat×Nat)->Bool|none,none=>true|some (a,b),some (a',b')=>Nat.beq a a'&&Nat.beq b b'|_,_=>false
def AJe:Src->Src->Bool|.old a,.old b=>Nat.beq a b|.own r s,.own r' s'=>CJ.is r r'&&AJf s s'|_,_=>false
def AVp:List (Nat×Nat)->List (Nat×Nat)->Bool| [],[]=>true|(a,b)::r,(a',b')::r'=>Nat.beq a a'&&Nat.beq b b'&&AVp r r'|_,_=>false
section
variable{ρ:Type}
def agU:U->U->Option ρ->Option ρ|.top,.top,X=>X|.int k n,.int k' n',X=>if k'=k then eqv n n' X else none|.u8 a,.u8 b,X=>eqv a b X|.bool a,.bool b,X=>eqv a b X|.str a,.str b,X=>eqv a b X|.nil,.nil,X=>X|.np,.np,X=>X|.mp a,.mp b,X=>eqv a b X|.sl c xs,.sl c' ys,X=>if h:c'=c then eqv xs (h▸ys) X else none|_,_,_=>none
def AXV:List U->List U->Option ρ->Option ρ| [],[],X=>X|a::r,b::r',X=>agU a b (AXV r r' X)|_,_,_=>none
def AXT:AS->AS->Option ρ->Option ρ|.t x,.t y,X=>agU x y X|.und,.und,X=>X|.ow x,.ow y,X=>agU x y X|.owh c xs hs,.owh c' ys hs',X=>ifB (AVp hs hs') (if h:c'=c then eqv xs (h▸ys) X else none)|.al r s,.al r' s',X=>ifB (CJ.is r r'&&AJf s s') X|.ep r i j,.ep r' i' j',X=>ifB (CJ.is r r'&&Nat.beq j j') (eqv i i' X)|.vw s c xs,.vw s' c' ys,X=>ifB (AJe s s') (if h:c'=c then eqv xs (h▸ys) X else none)|.vp s cs,.vp s' cs',X=>ifB (AJe s s') (AXV cs cs' X)|.bp a o,.bp a' o',X=>ifB (Nat.beq a a'&&Nat.beq o o') X|_,_,_=>none
def AU8:List AS->List AS->Option ρ->Option ρ| [],[],X=>X|a::r,b::r',X=>AXT a b (AU8 r r' X)|_,_,_=>none
def agE(v:Nat):List (Nat×Ent)->List (Nat×Ent)->Option ρ->Option ρ
 | [],[],X=>X|(k,e)::r,(k',e')::r',X=>match Nat.beq k k' with
  |true=>match (Nat.blt e.ver v&&Nat.blt e'.ver v) with|true=>agE v r r' X|false=>ifB (AXw e.sh e'.sh) (AU8 e.cs e'.cs (agE v r r' X))
  |false=>none
 |_,_,_=>none
def agB(v:Nat):List (Nat×Bx)->List (Nat×Bx)->Option ρ->Option ρ
 | [],[],X=>X|(k,e)::r,(k',e')::r',X=>match Nat.beq k k' with
  |true=>match (Nat.blt e.ver v&&Nat.blt e'.ver v) with|true=>agB v r r' X|false=>AU8 e.cs e'.cs (agB v r r' X)
  |false=>none
 |_,_,_=>none
def agS(v:Nat)(A B:St)(X:Option ρ):Option ρ:=ifB (mB A.tm&&mB B.tm&&mB A.bx&&mB B.bx) (agE v A.tm B.tm (agB v A.bx B.bx X))
end
inductive B2 where
 |nil|op(i:Nat)(g:Option (Nat×Bool))(sf:List Nat)(o:YOp R)(rest:B2)|dr(ds:List Nat)(rest:B2)|nl(ns:List (CJ×C))(rest:B2)|both(n:Nat)(a b:B2)
section
variable {R} {ρ:Type}
def evr:B2 R->St->(St->Option ρ)->Option ρ
 |.nil,S,K=>K S|.op _ g sf p rest,S,K=>match g with
  |none=>ifB (KO p S sf) (ev p S λS'=>S'.GW λS'=>evr rest S' K)|some (s,w)=>match get S.tm s with
   |some ⟨.one,[.t (.bool b)],_⟩=>
    br b (mK w p (S.lit s true) (ifB (KO p (S.lit s true) sf) (ev p (S.lit s true) λS'=>S'.GW λS'=>evr rest S' K)) λS'=>S'.GW λS'=>evr rest S' K)
     (mK (!w) p (S.lit s false) (ifB (KO p (S.lit s false) sf) (ev p (S.lit s false) λS'=>S'.GW λS'=>evr rest S' K)) λS'=>S'.GW λS'=>evr rest S' K)
   |some ⟨.one,[.und],_⟩=>Ms p S λS'=>S'.GW λS'=>evr rest S' K|_=>none
 |.dr ds rest,S,K=>evr rest (S.Im ds) K|.nl ns rest,S,K=>evr rest (S.Rs ns) K|.both n a b,S,K=>match n with|0=>evr a S λA=>evr b S λB=>agS S.nv A B (K A)|_+1=>evr a S λA=>alt (λX=>evr b S λB=>agS S.nv A B X) (K A)
end
inductive AL where
 |val(c:C)(s:Option Src)|num(k:IntKind)|al(r:CJ)
def AL.D:AL->Type|.val c _=>c.D|.num _=>Int|.al _=>Unit
def AL.w:AL->Nat|.val c _=>c.size|.num _=>1|.al _=>1
def TA:List AL->Type| []=>Unit| [a]=>a.D|a::a'::as=>a.D×TA (a'::as)
def ASS(s:Option Src)(x:U):AS:=match s with|none=>KN x|some q=>K9 q x
def AL.leaf:(a:AL)->a.D->List AS|.val c s,x=>(cells c x).map (ASS s)|.num k,z=>[.t (.int k z)]|.al r,_=>[.al r none]
def AST(s:Option Src):AS->Option U
 |.t (.sl _ _)=>none|.t .nil=>none|.t (.mp _)=>none|.t x=>some x|.ow (.sl c xs)=>match s with|none=>some (.sl c xs)|some _=>none
 |.ow (.mp ks)=>match s with|none=>some (.mp ks)|some _=>none
 |.vw q' c xs=>match s with|none=>none|some q=>if q'=q then some (.sl c xs) else none
 |_=>none
def xG(s:Option Src):List AS->Option (List U)
 | []=>some []|l::ls=>match AST s l,xG s ls with|some x,some xs=>some (x::xs)|_,_=>none
def AL.un:(a:AL)->List AS->Option a.D
 |.val c s,ls=>match xG s ls with|some us=>ofC c us|none=>none
 |.num k,ls=>match ls with | [.t (.int k' z)]=>if k'=k then some z else none|_=>none
 |.al r,ls=>match ls with | [.al r' none]=>if r'=r then some () else none|_=>none
def Oc:(as:List AL)->TA as->List AS| [],_=>[]| [a],x=>a.leaf x|a::a'::as,x=>a.leaf x.1++Oc (a'::as) x.2
def AWn:(as:List AL)->List AS->Option (TA as)
 | [],ls=>match ls with | []=>some ()|_=>none
 | [a],ls=>a.un ls|a::a'::as,ls=>match a.un (ls.take a.w),AWn (a'::as) (ls.drop a.w) with|some x,some y=>some (x,y)|_,_=>none
abbrev Cut:=List (Bool×Nat×Sh×List AL)
def wid:List AL->Nat| []=>0|a::as=>a.w+wid as
def Cut.as(c:Cut):List AL:=(c.map λv=>v.2.2.2).flatten
def seg:Cut->List AS->List (Bool×Nat×Sh×List AS)| [],_=>[]|(b,d,sh,as)::vs,ls=>(b,d,sh,ls.take (wid as))::seg vs (ls.drop (wid as))
def look(b:Bool)(k:Nat):List (Bool×Nat×Sh×List AS)->Option (Sh×List AS)
 | []=>none|(b',d,sh,ls)::r=>match (b'==b&&Nat.beq d k) with|true=>some (sh,ls)|false=>look b k r
def mb(q:List (Bool×Nat×Sh×List AS))(a:List (Nat×Ent))(v:Nat):List (Nat×Ent)->List (Nat×Ent)
 | []=>[]|(k,e)::r=>(k,match look false k q with|some (sh,ls)=>⟨sh,ls,v⟩|none=>match get a k with|some e'=>e'|none=>e)::mb q a v r
def ma(q:List (Bool×Nat×Sh×List AS))(a:List (Nat×Bx))(v:Nat):List (Nat×Bx)->List (Nat×Bx)
 | []=>[]|(k,e)::r=>(k,match look true k q with|some (_,ls)=>⟨ls,v⟩|none=>match get a k with|some e'=>e'|none=>e)::ma q a v r
def Cut.st(c:Cut)(S S':St)(x:TA c.as):St:=⟨mb (seg c (Oc c.as x)) S.tm S.nv S'.tm,ma (seg c (Oc c.as x)) S.bx S.nv S'.bx,S.pin,S.nv+1⟩
def Ox(b:Bool)(k:Nat):Cut->Bool
 | []=>false|(b',d,_)::r=>match (b'==b&&Nat.beq d k) with|true=>true|false=>Ox b k r
def AKX(c:Cut)(a:List (Nat×Ent)):List (Nat×Ent)->Bool
 | []=>true|(k,e)::r=>(match Ox false k c with|true=>true|false=>match get a k with|some e'=>Nat.beq e.ver e'.ver|none=>false)&&(!ba k r)&&AKX c a r
def AKW(c:Cut)(a:List (Nat×Bx)):List (Nat×Bx)->Bool
 | []=>true|(k,e)::r=>(match Ox true k c with|true=>true|false=>match get a k with|some e'=>Nat.beq e.ver e'.ver|none=>false)&&(!ba k r)&&AKW c a r
def Mr{α:Type}:List (Nat×α)->List (Nat×α)->Bool| [],[]=>true|(k,_)::r,(k',_)::r'=>Nat.beq k k'&&Mr r r'|_,_=>false
def RY(S:St):Cut->Option (List AS)
 | []=>some []|(false,d,sh,as)::vs=>match get S.tm d,RY S vs with|some e,some ls=>if AND e.sh sh=true/\e.cs.length=wid as then some (e.cs++ls) else none|_,_=>none
 |(true,d,_,as)::vs=>match get S.bx d,RY S vs with|some e,some ls=>if e.cs.length=wid as then some (e.cs++ls) else none|_,_=>none
def wfE(v:Nat):List (Nat×Ent)->Bool| []=>true|(_,e)::r=>Nat.blt e.ver v&&wfE v r
def wfB(v:Nat):List (Nat×Bx)->Bool| []=>true|(_,e)::r=>Nat.blt e.ver v&&wfB v r
def Cut.fit(c:Cut)(S S':St):Option (TA c.as):=
 if wfE S.nv S.tm=true/\wfB S.nv S.bx=true/\AKX c S.tm S'.tm=true/\AKW c S.bx S'.bx=true
 then match RY S' c with|some ls=>AWn c.as ls|none=>none
 else none
inductive HD where
 |skip|region(ops:List (Option (Nat×Bool)×YOp R))(E9:List Nat)|Va(r:B2 R)(E9:List Nat)|seq(a b:HD)|join(c:Cut)(a b:HD)|cond(c:Nat)(kt ke:List Nat)(t e:HD)|block(id:Nat)(b:HD)|loop(c:Cut)(b:HD)|exit(id:Nat)|ret|scope(b:HD)|or(a b:HD)|dead|ASz(c:Cut)(b:HD)|Tv(a b:List (Option (Nat×Bool)×YOp R))(E9:List Nat)(d p c e:Nat)
end
section
variable{R:List GF}{ρ:Type}
def AUW{γ:Type}:List (Nat×Ent)->(List (Nat×Ent)->γ)->γ| [],K=>K []|(k,_)::r,K=>AUW r λr=>K ((k,⟨.one,[],0⟩)::r)
def AUV{γ:Type}:List (Nat×Bx)->(List (Nat×Bx)->γ)->γ| [],K=>K []|(k,_)::r,K=>AUV r λr=>K ((k,⟨[],0⟩)::r)
def St.see(S:St)(d p c e:Nat)(K:St->Option ρ):Option ρ:=match S.one (.tmp p),S.at (.tmp d 0) with
 |some (.bp b 0),some (.ow (.sl q xs))=>match S.at (.cell b c),Nat.beq q.size e with
  |some (.t .top),true=>bd xs.getLast? λx=>match (cells q x)[c]? with|some (.sl q' ys)=>K (S.Bg (.cell b c) (.vw (.own (.tmp d 0) none) q' ys))|_=>none
  |_,_=>none
 |_,_=>none
def IL:HD R->St->(Ex->St->Option ρ)->Option ρ
 |.skip,S,K=>K .n S|.region ops E9,S,K=>evs ops S λS'=>(S'.eH E9).GW λS'=>K .n S'|.Va r E9,S,K=>evr r S λS'=>(S'.eH E9).GW λS'=>K .n S'|.seq a b,S,K=>IL a S λe S'=>match e with|Ex.n=>IL b S' K|.x i=>K (.x i) S'|.r=>K .r S'
 |.join c a b,S,K=>IL a S λe S'=>match e with
  |.n=>match c.fit S S' with|some x=>AUW S'.tm λtm=>AUV S'.bx λbx=>jn (λx=>(c.st S ⟨tm,bx,[],0⟩ x).GW λS=>IL b S K) x|none=>none
  |.x i=>K (.x i) S'|.r=>K .r S'
 |.cond c kt ke t e,S,K=>match S.sc (.tmp c) with|some (.bool b)=>br b ((S.eH kt).GW λS=>IL t S K) ((S.eH ke).GW λS=>IL e S K)|_=>none
 |.block id b,S,K=>IL b S λe S'=>match e with|.n=>K .n S'|.x i=>if i=id then K .n S' else K (.x i) S'|.r=>K .r S'
 |.loop c b,S,K=>match c.fit S S with
  |some x=>BE (λL x=>(c.st S S x).GW λS1=>IL b S1 λe S'=>match e with
   |.n=>if Mr S.tm S'.tm=true/\Mr S.bx S'.bx=true then (match c.fit S S' with|some y=>L y|none=>none) else none
   |.x i=>K (.x i) S'|.r=>K .r S') big x
  |none=>none
 |.exit id,S,K=>K (.x id) S|.ret,S,K=>K .r S|.scope b,S,K=>IL b S K|.or a b,S,K=>orX (IL a S K) (IL b S K)|.dead,_,_=>none|.ASz c b,S,K=>IL b S λe S0=>match e with
  |.n=>match c.fit S0 S0 with
   |some x=>BE (λL x=>(c.st S0 S0 x).GW λS1=>IL b S1 λe S'=>match e with
    |.n=>if Mr S0.tm S'.tm=true/\Mr S0.bx S'.bx=true then (match c.fit S0 S' with|some y=>L y|none=>none) else none
    |.x i=>K (.x i) S'|.r=>K .r S') big x
   |none=>none
  |.x i=>K (.x i) S0|.r=>K .r S0
 |.Tv a b E9 d p c e,S,K=>evs a S λS=>match S.one (.tmp p) with
  |some (.bp id 0)=>match get S.bx id with|some _=>evs b S λS'=>S'.see d p c e λS'=>(S'.eH E9).GW λS'=>K .n S'|none=>none
  |_=>none
def Ph(i:Nat):(l:List (Bool×C))->su l->List Cap
 | [],_=>[]|(false,c)::r,x=>(match cells c x.1 with | [.sl c' xs]=>.vw i c' xs | [u]=>.t u|_=>.t .top)::Ph i r x.2
 |(true,c)::r,x=>.vp i (cells c x.1)::Ph i r x.2
def initK:Nat->List Nat->(ks:List PK)->A ks->St->St
 |_,_,[],_,S=>S|i,fs,.v c::ks,a,S=>initK (i+1) fs ks a.2 (S.Kb i (shC c) ((cells c a.1).map (Ed i)))|i,fs,.p c::ks,a,S=>initK (i+1) fs ks a.2 (S.Kb i .one [.vp (.old i) (cells c a.1)])|i,fs,.b c::ks,a,S=>initK (i+1) fs ks a.2 (let S1:=(S.Kb i .one [.bp i 0]).O1 i ((cells c a.1).map (Ed i));⟨S1.tm,S1.bx,i::S1.pin,S1.nv⟩)
 |i,fs,.o c::ks,a,S=>initK (i+1) fs ks a.2 (S.Kb i (shC c) ((cells c a.1).map KN))|i,fs,.m c::ks,a,S=>initK (i+1) fs ks a.2 (let S1:=S.Kb i (shC c) ((cells c a.1).map KN);⟨S1.tm,S1.bx,i::S1.pin,S1.nv⟩)
 |i,fs,.f _ l::ks,a,S=>initK (i+1) fs.tail ks a.2 (S.Kb i .one [.fn (fs.headD 0) (Ph i l a.1)])
def Mq{ρ:Type}:List Ig->St->(List (Option Nat)->List AS->Option ρ)->Option ρ
 | [],_,K=>K [] []|.tmp t::rs,S,K=>match S.rd (.tmp t) with
  |some e=>if Gl e.sh e.cs.length=true then Mq rs S λns ls=>K ((match e.sh with|.one=>none|_=>some e.cs.length)::ns) (e.cs++ls) else none
  |none=>none
 |.cell t n::rs,S,K=>match S.one (.tmp t) with|some (.bp id o)=>S.load (Dj n) (.bp id o) λls'=>Mq rs S λns ls=>K (n::ns) (ls'++ls)|_=>none
 |.bx _::_,_,_=>none|.vw _ _::_,_,_=>none|.un _ _::_,_,_=>none
def Of:List AS->Bool
 | []=>true|l::ls=>(match l with|.t x=>!SW x|.vw (.old _) _ _=>true|_=>false)&&Of ls
def cP(rk:RK)(rs:List Ig)(S:St)(K:St->List U->Option ρ):Option ρ:=
 match rk,rs with
 |.ptr k _,[.bx t]=>match S.one (.tmp t) with
  |some (.bp id 0)=>match get S.bx id with
   |some ls=>if mem id S.pin=true then none else if De ls.cs=k then match F5 k ls.cs with|some us=>K S us|none=>none else none
   |none=>none
  |_=>none
 |.vw k _,[.vw t k']=>if k'=k then match S.one (.tmp t) with
  |some (.vw (.old k'') c xs)=>if k''=k then K S [.sl c xs] else none|some (.al r sub)=>match S.at r with|some (.ow x)=>K (S.out r) [AG1 sub x]|_=>none
  |_=>none
  else none
 |.ret (.un n::c::cs),.un t n'::r::rs=>if n'=n then match S.one (.tmp t) with
  |some (.bp id o)=>S.load n (.bp id o) λls'=>if Of ls'=true then Mq (r::rs) S λns ls=>if ns=(c::cs).map wC then match Du S ls with
   |some (S',us)=>K S' (List.replicate n .un++us)|none=>none
   else none
   else none
  |_=>none
  else none
 |.ret cs,rs=>Mq rs S λns ls=>if ns=cs.map wC then match Du S ls with
  |some (S',us)=>K S' us|none=>none
  else none
 |_,_=>none
def owT:AS->Option U|.ow x=>some x|.t x=>if SW x=true then none else some x|_=>none
def cO:List AS->Option (List U)
 | []=>some []|l::ls=>match owT l,cO ls with|some x,some xs=>some (x::xs)|_,_=>none
def Fb:Nat->List PK->St->Option (List U)
 |_,[],_=>some []|i,.b c::ks,S=>match get S.bx i,Fb (i+1) ks S with
  |some ls,some os=>if mem i S.pin=true/\ls.cs.length=c.size then match F5 i ls.cs with|some us=>some (us++os)|none=>none else none
  |_,_=>none
 |i,.m c::ks,S=>match get S.tm i,Fb (i+1) ks S with
  |some e,some os=>if mem i S.pin=true/\Gl e.sh e.cs.length=true/\e.cs.length=c.size then match cO e.cs with|some us=>some (us++os)|none=>none else none
  |_,_=>none
 |i,_::ks,S=>Fb (i+1) ks S
def VJ:List C->Nat| []=>0|c::cs=>c.size+VJ cs
def fin(ks:List PK)(rk:RK)(rs:List Ig)(S:St):Option (Tu (rk.cs++ME ks)):=
 cP rk rs S λS' us=>match Fb 0 ks S' with|some os=>if us.length=VJ rk.cs then ofT (rk.cs++ME ks) (us++os) else none|none=>none
end
structure YF where
 R:List GF
 ps:List PK
 fs:List Nat
 rk:RK
 rs:List Ig
 body:HD R
def YF.run(f:YF)(a:A f.ps):Option (Tu (f.rk.cs++ME f.ps)):=
 (initK 0 f.fs f.ps a ⟨[],[],[],0⟩).GW λS=>IL f.body S λe S=>match e with|.x _=>none|.n=>fin f.ps f.rk f.rs S|.r=>fin f.ps f.rk f.rs S
end Y
theorem FV:∀(c:C) (x:c.D),enc c x=(cells c x).map U.fg
 |.i,x=>rfl|.u,x=>rfl|.b,x=>rfl|.s,x=>rfl|.m,x=>rfl|.ki _,x=>rfl|.z,x=>rfl|.l c,xs=>rfl|.un n,x=>by simp only[enc,cells,Fe];rfl|.st n,x=>by
  match n,x with
  |0,x=>rfl|1,x=>rfl|2,x=>rfl|3,x=>rfl|4,x=>rfl|5,x=>rfl|6,x=>rfl|7,x=>rfl|8,x=>rfl|9,x=>rfl|10,x=>rfl|11,x=>rfl|12,x=>rfl|13,x=>rfl|14,x=>rfl|15,x=>rfl|16,x=>rfl|17,x=>rfl|_+18,x=>rfl
theorem AUr{u:U}{n:Int}(h:toI u=some n):u=.int .i64 n:=by
 cases u<;>simp[toI]at h
 grind
theorem AYk{u:U}{n:UInt8}(h:toU u=some n):u=.u8 n:=by cases u<;>simp[toU]at h;rw[h]
theorem AKe{u:U}{n:Bool}(h:AWl u=some n):u=.bool n:=by cases u<;>simp[AWl]at h;rw[h]
theorem AUt{u:U}{n:List UInt8}(h:toS u=some n):u=.str n:=by cases u<;>simp[toS]at h;rw[h]
theorem AYj{k:IntKind}{u:U}{n:Int}(h:toN k u=some n):u=.int k n:=by
 cases u<;>simp[toN]at h
 grind
theorem AYl{u:U}{n:Unit}(h:toZ u=some n):u=.nil:=by cases u<;>simp[toZ]at h;rfl
theorem AYi{u:U}{n:List (Int×Int)}(h:toM u=some n):u=.mp n:=by cases u<;>simp[toM]at h;rw[h]
theorem AUs{c:C}{u:U}{n:List c.D}(h:toL c u=some n):u=.sl c n:=by
 cases u<;>simp[toL]at h
 grind
theorem bind_eq{β:Type}{f:α->Option β}{r:β}(h:o.bind f=some r):∃x,o=some x/\f x=some r:=ob h
theorem D8{α:Type}{us:List U}{K:Int->List U->Option α}{r:α}(h:gI us K=some r):∃a j,us=.int .i64 a::j/\K a j=some r:=by
 cases us with
 |nil=>cases h
 |cons u us=>obtain⟨a,q,h⟩:=bind_eq h;obtain rfl:=AUr q;exact⟨a,us,rfl,h⟩
theorem bL{α:Type}{us:List U}{K:List UInt8->List U->Option α}{r:α}(h:gS us K=some r):∃a j,us=.str a::j/\K a j=some r:=by
 cases us with
 |nil=>cases h
 |cons u us=>obtain⟨a,q,h⟩:=bind_eq h;obtain rfl:=AUt q;exact⟨a,us,rfl,h⟩
theorem AX0{α:Type}{us:List U}{K:Bool->List U->Option α}{r:α}(h:gBo us K=some r):∃a j,us=.bool a::j/\K a j=some r:=by
 cases us with
 |nil=>cases h
 |cons u us=>obtain⟨a,q,h⟩:=bind_eq h;obtain rfl:=AKe q;exact⟨a,us,rfl,h⟩
theorem KK{α:Type}{c:C}{us:List U}{K:List c.D->List U->Option α}{r:α}(h:gL c us K=some r):∃a j,us=.sl c a::j/\K a j=some r:=by
 cases us with
 |nil=>cases h
 |cons u us=>obtain⟨a,y,q⟩:=bind_eq h;obtain rfl:=AUs y;exact⟨a,us,rfl,q⟩
theorem Lb{α:Type}{us:List U}{a r:α}(h:gE us a=some r):us=[]/\a=r:=by
 cases us with
 |nil=>exact⟨rfl,Option.some.inj h⟩|cons u us=>cases h
theorem ASk{us:List U}{x:Bp}(h:ASj us=some x):AWx x=us:=by
 grind[ASj,D8,Lb]
theorem AGL{us:List U}{x:AY}(h:xW us=some x):AHQ x=us:=by
 unfold xW at h;obtain⟨a0,B,rfl,j⟩:=KK h;obtain⟨q,E,rfl,y⟩:=D8 j
 grind[D8,Lb]
theorem AGJ{us:List U}{x:AU}(h:xU us=some x):AHO x=us:=by
 unfold xU at h;obtain⟨a0,G,rfl,j⟩:=D8 h;obtain⟨y,H,rfl,q⟩:=D8 j;obtain⟨B,I,rfl,E⟩:=D8 q
 grind[D8,Lb]
theorem ADF{us:List U}{x:BN}(h:mE us=some x):zQ x=us:=by
 grind[mE,D8,Lb]
theorem AGG{us:List U}{x:A0}(h:xR us=some x):AHL x=us:=by
 grind[xR,D8,Lb]
theorem ASi{us:List U}{x:Bc}(h:ASh us=some x):AWw x=us:=by
 grind[ASh,D8,Lb]
theorem AGN{us:List U}{x:A2}(h:xY us=some x):AHS x=us:=by
 grind[xY,KK,Lb]
theorem AGF{us:List U}{x:Ag}(h:xQ us=some x):AHK x=us:=by
 unfold xQ at h
 grind[D8,KK,Lb]
theorem AGI{us:List U}{x:AE}(h:xT us=some x):AHN x=us:=by
 unfold xT at h;obtain⟨a0,Y,rfl,j⟩:=KK h;obtain⟨I,Z,rfl,q⟩:=D8 j;obtain⟨J,u2,rfl,y⟩:=D8 q;obtain⟨a3,u3,rfl,B⟩:=D8 y;obtain⟨a4,u4,rfl,E⟩:=D8 B;obtain⟨L,u5,rfl,G⟩:=D8 E;obtain⟨O,u6,rfl,H⟩:=D8 G;obtain⟨Q,u7,rfl,X⟩:=D8 H
 grind[D8,KK,Lb]
theorem ALc{us:List U}{x:B4}(h:AGE us=some x):ANz x=us:=by
 grind[AGE,bL,D8,Lb]
theorem AGM{us:List U}{x:Bo}(h:xX us=some x):AHR x=us:=by
 grind[xX,bL,D8,Lb]
theorem ADE{us:List U}{x:A6}(h:mD us=some x):zP x=us:=by
 unfold mD at h;obtain⟨a0,u0,rfl,Q⟩:=KK h;obtain⟨a1,u1,rfl,X⟩:=D8 Q;obtain⟨a2,u2,rfl,Z⟩:=D8 X;obtain⟨a3,u3,rfl,h3⟩:=D8 Z;obtain⟨a4,u4,rfl,h4⟩:=D8 h3;obtain⟨a5,u5,rfl,h5⟩:=D8 h4;obtain⟨a6,u6,rfl,h6⟩:=D8 h5;obtain⟨a7,u7,rfl,h7⟩:=D8 h6;obtain⟨a8,u8,rfl,h8⟩:=D8 h7;obtain⟨a9,u9,rfl,h9⟩:=D8 h8;obtain⟨G,u10,rfl,j⟩:=D8 h9;obtain⟨H,u11,rfl,q⟩:=KK j;obtain⟨I,u12,rfl,y⟩:=KK q;obtain⟨J,u13,rfl,B⟩:=KK y;obtain⟨L,u14,rfl,E⟩:=KK B;obtain⟨O,u15,rfl,Y⟩:=bL E
 grind[D8,bL,KK,Lb]
theorem AGK{us:List U}{x:Cw}(h:xV us=some x):AHP x=us:=by
 grind[xV,D8,KK,Lb]
theorem AGO{us:List U}{x:CQ}(h:xZ us=some x):AHT x=us:=by
 unfold xZ at h;obtain⟨a0,u0,rfl,h0⟩:=KK h;obtain⟨a1,u1,rfl,h1⟩:=D8 h0;obtain⟨a2,u2,rfl,h2⟩:=D8 h1;obtain⟨a3,u3,rfl,h3⟩:=D8 h2;obtain⟨a4,u4,rfl,h4⟩:=D8 h3;obtain⟨a5,u5,rfl,h5⟩:=D8 h4;obtain⟨a6,u6,rfl,h6⟩:=D8 h5;obtain⟨a7,u7,rfl,h7⟩:=D8 h6;obtain⟨a8,u8,rfl,h8⟩:=D8 h7;obtain⟨a9,u9,rfl,h9⟩:=D8 h8;obtain⟨L,u10,rfl,j⟩:=D8 h9;obtain⟨O,u11,rfl,q⟩:=KK j;obtain⟨Q,u12,rfl,y⟩:=KK q;obtain⟨X,u13,rfl,B⟩:=KK y;obtain⟨Y,u14,rfl,E⟩:=KK B;obtain⟨Z,u15,rfl,G⟩:=bL E;obtain⟨a16,u16,rfl,H⟩:=D8 G;obtain⟨a17,u17,rfl,I⟩:=bL H;obtain⟨a18,u18,rfl,J⟩:=D8 I;obtain⟨a19,u19,rfl,h19⟩:=bL J
 grind[D8,KK,Lb]
theorem ASg{us:List U}{x:Dv}(h:ASf us=some x):AWv x=us:=by
 unfold ASf at h;obtain⟨a0,B,rfl,j⟩:=D8 h;obtain⟨q,E,rfl,y⟩:=D8 j
 grind[D8,KK,Lb]
theorem AGH{us:List U}{x:B3}(h:xS us=some x):AHM x=us:=by
 grind[xS,D8,bL,Lb]
theorem AGP{us:List U}{x:Df}(h:xc us=some x):AHU x=us:=by
 grind[xc,KK,D8,AX0,Lb]
theorem AGQ{us:List U}{x:BS}(h:xd us=some x):AHV x=us:=by
 grind[xd,KK,D8,Lb]
theorem ALd:∀{n:Nat} {us:List U} {x:tD n},ofS n us=some x->AEc n x=us
 |0,us,x,h=>ASk h|1,us,x,h=>AGL h|2,us,x,h=>AGJ h|3,us,x,h=>ADF h|4,us,x,h=>AGG h|5,us,x,h=>ASi h|6,us,x,h=>AGN h|7,us,x,h=>AGF h|8,us,x,h=>AGI h|9,us,x,h=>ALc h|10,us,x,h=>AGM h|11,us,x,h=>ADE h|12,us,x,h=>AGK h|13,us,x,h=>AGO h|14,us,x,h=>ASg h|15,us,x,h=>AGH h|16,us,x,h=>AGP h|17,us,x,h=>AGQ h|_+18,us,x,h=>by cases h
theorem Tp{α:Type}{us:List U}{f:U->Option α}{r:α}(h:of1 us f=some r):∃u,us=[u]/\f u=some r:=by
 match us,h with
 | [u],h=>exact⟨u,rfl,h⟩
theorem AEG:∀{n:Nat} {us:List U} {x:Unit},NT n us=some x->us=List.replicate n .un|0,[],_,_=>rfl|n+1,.un::us,x,h=>by rw[JO,<-AEG (n:=n) (x:=x) (by simpa only[NT] using h)]|0,_::_,_,h=>by simp[NT]at h|n+1,[],_,h=>by simp[NT]at h|n+1,.int _ _::_,_,h=>by simp[NT]at h|n+1,.top::_,_,h=>by simp[NT]at h|n+1,.u8 _::_,_,h=>by simp[NT]at h|n+1,.bool _::_,_,h=>by simp[NT]at h|n+1,.str _::_,_,h=>by simp[NT]at h|n+1,.nil::_,_,h=>by simp[NT]at h|n+1,.np::_,_,h=>by simp[NT]at h|n+1,.sl _ _::_,_,h=>by simp[NT]at h|n+1,.mp _::_,_,h=>by simp[NT]at h
theorem aA:∀{c:C} {us:List U} {x:c.D},ofC c us=some x->cells c x=us
 |.i,us,x,h=>by obtain⟨u,rfl,h⟩:=Tp h;obtain rfl:=AUr h;rfl
 |.u,us,x,h=>by obtain⟨u,rfl,h⟩:=Tp h;obtain rfl:=AYk h;rfl
 |.b,us,x,h=>by obtain⟨u,rfl,h⟩:=Tp h;obtain rfl:=AKe h;rfl
 |.s,us,x,h=>by obtain⟨u,rfl,h⟩:=Tp h;obtain rfl:=AUt h;rfl
 |.ki k,us,x,h=>by obtain⟨u,rfl,h⟩:=Tp h;obtain rfl:=AYj h;rfl
 |.m,us,x,h=>by obtain⟨u,rfl,h⟩:=Tp h;obtain rfl:=AYi h;rfl
 |.z,us,x,h=>by obtain⟨u,rfl,h⟩:=Tp h;obtain rfl:=AYl h;rfl
 |.l c,us,x,h=>by obtain⟨u,rfl,h⟩:=Tp h;obtain rfl:=AUs h;rfl
 |.st n,us,x,h=>ALd h|.un n,us,x,h=>(AEG (show NT n us=some x from h)).symm
theorem I8{c:C}{us:List U}{x:c.D}(h:ofC c us=some x):enc c x=us.map U.fg:=by rw[FV,aA h]
theorem Y4:∀(c:C) (x:c.D),(cells c x).length=c.size
 |.i,x=>rfl|.u,x=>rfl|.b,x=>rfl|.s,x=>rfl|.m,x=>rfl|.ki _,x=>rfl|.z,x=>rfl|.l c,xs=>rfl|.un n,x=>List.length_replicate|.st n,x=>by
  match n,x with
  |0,x=>rfl|1,x=>rfl|2,x=>rfl|3,x=>rfl|4,x=>rfl|5,x=>rfl|6,x=>rfl|7,x=>rfl|8,x=>rfl|9,x=>rfl|10,x=>rfl|11,x=>rfl|12,x=>rfl|13,x=>rfl|14,x=>rfl|15,x=>rfl|16,x=>rfl|17,x=>rfl|_+18,x=>rfl
theorem PG(c:C)(x:c.D):(enc c x).length=c.size:=by rw[FV,Ac,Y4]
theorem AWD{c:C}{us:List U}{x:c.D}(h:ofC c us=some x):us.length=c.size:=by rw[<-aA h,Y4]
def Cap.fg:Cap->AS|.t x=>.t x.fg|.vw k c xs=>.vw (.old k) c.size (xs.map (enc c))|.vp k cs=>.vp (.old k) (cs.map U.fg)|.bp id off=>.bp id off
namespace Y
section
variable(R:List GF)
def xr(n:Nat):CN:=match R[n]? with|some g=>g.x|none=>.NC 0 []
def NR(rows:List (List T)):List (Nat×Nat)->List (List T)| []=>rows|(i,j)::hs=>NR (Jc rows i j .top) hs
def AS.fg:AS->Lv.AS|.t x=>.t x.fg|.und=>.und|.ow x=>.ow x.fg|.owh c xs hs=>.ow (.sl c.size (NR (xs.map (enc c)) hs))|.al r sub=>.al r sub|.ep r i j=>.ep r i.toNat j|.vw s c xs=>.vw s c.size (xs.map (enc c))|.vp s cs=>.vp s (cs.map U.fg)|.bp id off=>.bp id off|.fn n caps=>.fn (xr R n) (caps.map Cap.fg)
def Ent.fg(e:Ent):Lv.Ent:=⟨e.sh,e.cs.map (AS.fg R)⟩
def En.fg(e:En):Lv.Ent:=⟨e.sh,e.cs.map (AS.fg R)⟩
def fgE(l:List (Nat×Ent)):List (Nat×Lv.Ent):=l.map λp=>(p.1,p.2.fg R)
def fgB(l:List (Nat×Bx)):List (Nat×List Lv.AS):=l.map λp=>(p.1,p.2.cs.map (AS.fg R))
def St.fg(S:St):Lv.St:=⟨fgE R S.tm,fgB R S.bx,S.pin⟩
theorem mem_iff{k:Nat}{ks:List Nat}:mem k ks=true↔k∈ks:=by
 induction ks with
 |nil=>simp[mem]|cons x xs j=>
  simp only[mem,Ad];by_cases h:k=x
  .subst h;simp
  grind[Nat.beq,Nat.eq_of_beq_eq_true]
theorem N3{k:Nat}{ks:List Nat}:mem k ks=false↔k∉ks:=by
 rw[<-mem_iff];cases mem k ks<;>simp
theorem beq_true{a b:Nat}(h:Nat.beq a b=true):a=b:=Ey h
theorem beq_false{a b:Nat}(h:Nat.beq a b=false):a≠b:=IH h
theorem get_eq{α:Type}:∀(l:List (Nat×α)) (k:Nat),get l k=Lv.get l k
 | [],_=>rfl|(j,a)::r,k=>by
  simp only[get,Lv.get];cases h:Nat.beq j k with
  |true=>rw[AW (beq_true h)]|false=>rw[AT (beq_false h),get_eq r k]
theorem AGh{α:Type}:∀(l:List (Nat×α)) (k:Nat) (a:α),put l k a=Lv.put l k a
 | [],_,_=>rfl|(j,b)::r,k,a=>by
  simp only[put,Lv.put];cases h:Nat.beq k j with
  |true=>rw[AW (beq_true h)]|false=>
   rw[AT (beq_false h)];have B:=beq_false h;cases q:Nat.ble k j with
   |true=>have:=Ij q;rw[AW (by omega)]
   |false=>have:¬k<=j:=λy=>by rw[Nat.ble_eq_true_of_le y]at q;cases q
           rw[AT (by omega),AGh r k a]
theorem kN{α:Type}(ks:List Nat):∀(l:List (Nat×α)),KI ks l=Lv.KI ks l
 | []=>rfl|(j,b)::r=>by
  simp only[KI,Lv.KI];cases h:mem j ks with
  |true=>rw[AW (mem_iff.1 h),kN ks r]|false=>rw[AT (N3.1 h),kN ks r]
theorem Zu{α:Type}(ks:List Nat):∀(l:List (Nat×α)),G8 ks l=Lv.G8 ks l
 | []=>rfl|(j,b)::r=>by
  simp only[G8,Lv.G8];cases h:mem j ks with
  |true=>rw[AW (mem_iff.1 h),Zu ks r]|false=>rw[AT (N3.1 h),Zu ks r]
theorem get_map{α β:Type}(f:α->β):∀(l:List (Nat×α)) (k:Nat),Lv.get (l.map λp=>(p.1,f p.2)) k=(Lv.get l k).map f
 | [],_=>rfl|(j,a)::r,k=>by
  simp only[AK,Lv.get];by_cases h:j=k
  .simp[h]
  .simp[h,get_map f r k]
theorem xy{α β:Type}(f:α->β):∀(l:List (Nat×α)) (k:Nat) (a:α),Lv.put (l.map λp=>(p.1,f p.2)) k (f a)=(Lv.put l k a).map λp=>(p.1,f p.2)
 | [],_,_=>rfl|(j,b)::r,k,a=>by
  simp only[AK,Lv.put];by_cases h:k=j
  .simp[h]
  .by_cases q:k<j
   .simp[h,q]
   .simp[h,q,xy f r k a]
theorem ZN{α β:Type}(f:α->β)(ks:List Nat):∀(l:List (Nat×α)),Lv.KI ks (l.map λp=>(p.1,f p.2))=(Lv.KI ks l).map λp=>(p.1,f p.2)
 | []=>rfl|(j,b)::r=>by
  simp only[AK,Lv.KI];by_cases h:j∈ks
  .simp[h,ZN f ks r]
  .simp[h,ZN f ks r]
theorem Ro{α β:Type}(f:α->β)(ks:List Nat):∀(l:List (Nat×α)),Lv.G8 ks (l.map λp=>(p.1,f p.2))=(Lv.G8 ks l).map λp=>(p.1,f p.2)
 | []=>rfl|(j,b)::r=>by
  simp only[AK,Lv.G8];by_cases h:j∈ks
  .simp[h,Ro f ks r]
  .simp[h,Ro f ks r]
variable {R}
theorem Xj(S:St)(k:Nat):Lv.get (S.fg R).tm k=(get S.tm k).map (Ent.fg R):=by rw[get_eq];exact get_map (Ent.fg R) S.tm k
theorem PI(S:St)(k:Nat):Lv.get (S.fg R).bx k=(get S.bx k).map (λb=>b.cs.map (AS.fg R)):=by rw[get_eq];exact get_map (λb:Bx=>b.cs.map (AS.fg R)) S.bx k
end
end Y
namespace Y
section
variable{R:List GF}
theorem CJ.ASH(r r':CJ):CJ.is r r'=decide (r=r'):=by
 have j:∀a b:Nat,Nat.beq a b=decide (a=b):=λa b=>by
  grind[Nat.beq,beq_true,beq_false]
 cases r<;>cases r'<;>simp only[CJ.is,CJ.tmp.injEq,CJ.cell.injEq,reduceCtorEq,decide_false]
 .grind
 grind
theorem Zr(o:Option CJ)(r:CJ):isR o r=decide (o=some r):=by
 cases o with
 |none=>simp[isR]|some q=>simp[isR,CJ.ASH]
theorem RJ(a b:Nat):Nat.beq a b=decide (a=b):=by
 grind[Nat.beq,beq_true,beq_false]
theorem AX4(o:Option Nat)(r:Nat):isN o r=decide (o=some r):=by
 cases o with
 |none=>simp[isN]|some q=>simp[isN,RJ]
theorem Uc(k:Nat)(ks:List Nat):mem k ks=decide (k∈ks):=by
 grind[mem,mem_iff,N3]
@[simp] theorem LH(l:AS):(AS.fg R l).B7=l.B7:=by
 cases l<;>try rfl
 .rename_i s c xs;cases s<;>rfl
 .rename_i s cs;cases s<;>rfl
@[simp] theorem ANv(l:AS):(AS.fg R l).Ma=l.Ma:=by
 cases l<;>try rfl
 .rename_i r sub;cases r<;>rfl
 .rename_i r i j;cases r<;>rfl
 .rename_i s c xs;cases s with
  |own r p=>cases r<;>rfl
  |old k=>rfl
 .rename_i s cs;cases s with
  |own r p=>cases r<;>rfl
  |old k=>rfl
@[simp] theorem AEa(l:Cap):l.fg.Ma=l.Ma:=by cases l<;>rfl
theorem ah(l:Cap):AS.fg R l.leaf=l.fg:=by cases l<;>rfl
theorem ALf(r:CJ)(l:AS):Lv.MC r (AS.fg R l)=MC r l:=by simp[Lv.MC,MC,Zr]
theorem Rv(r:CJ)(l:AS):Lv.Fo r (AS.fg R l)=Fo r l:=by
 cases l<;>try rfl
 .rename_i s c xs;cases s with|own r p=>simp[AS.fg,Lv.Fo,Fo,CJ.ASH]|old k=>rfl
 .rename_i s cs;cases s with|own r p=>simp[AS.fg,Lv.Fo,Fo,CJ.ASH]|old k=>rfl
theorem YH(d:Nat)(l:AS):Lv.FJ d (AS.fg R l)=FJ d l:=by
 grind[Lv.FJ,FJ,LH,RJ]
theorem YG(d:Nat)(l:AS):Lv.F9 d (AS.fg R l)=F9 d l:=by
 have h:=ANv (R:=R) l;cases l<;>simp only[AS.fg]at h ⊢ <;> simp only[Lv.F9,F9,AX4]<;>first|rw[h]|skip
 simp[Hp,Function.comp_def]
theorem AYQ(ks:List Nat)(o:Option Nat):(match o with|some d=>decide (d∉ks)|none=>false)=(match o with|some d=>!mem d ks|none=>false):=by
 grind[Uc]
theorem ALe(ks:List Nat)(l:AS):Lv.MA ks (AS.fg R l)=MA ks l:=by
 have h:=ANv (R:=R) l;cases l with
 |fn n caps=>
  simp only[AS.fg,Lv.MA,MA,Hp,Function.comp_def,AEa];congr 1;funext x;exact AYQ ks _
 |_=>
  grind[AS.fg,Lv.MA,MA,AS.Ma,Uc]
theorem mC(ks:List Nat)(l:AS):Lv.I7 ks (AS.fg R l)=I7 ks l:=by
 grind[Lv.I7,I7,LH,ALe,Uc]
theorem AJ0(ks:List Nat)(l:AS):Lv.Zo ks (AS.fg R l)=Zo ks l:=by
 grind[Lv.Zo,Zo,LH,Uc]
theorem Mn{q:AS->Bool}{q':Lv.AS->Bool}(j:∀l,q' (AS.fg R l)=q l):∀ls,Lv.Ek q' (ls.map (AS.fg R))=(Ek q ls).map (AS.fg R)
 | []=>rfl|l::ls=>by
  simp only[AK,Lv.Ek,Ek,j,Mn j ls];cases q l<;>rfl
theorem Vt{q:AS->Bool}:∀{ls:List AS},ls.any q=false->Ek q ls=ls
 | [],_=>rfl|l::ls,h=>by
  simp only[List.any_cons,Bool.or_eq_false_iff]at h;simp only[Ek,h.1,BI,if_false,Vt h.2]
theorem YD{q:AS->Bool}{q':Lv.AS->Bool}(j:∀l,q' (AS.fg R l)=q l)(v:Nat):∀ls,Lv.Ld q' (fgE R ls)=fgE R (Ld v q ls)
 | []=>rfl|(k,e)::ls=>by
  have y:=YD j v ls;simp only[fgE,AK,Lv.Ld,Ld]at y ⊢;rw[y];congr 2;simp only[Ent.fg];cases h:e.cs.any q with
  |true=>simp only[if_true,Mn j]|false=>rw[AT (by simp),Mn j,Vt h]
theorem YC{q:AS->Bool}{q':Lv.AS->Bool}(j:∀l,q' (AS.fg R l)=q l)(v:Nat):∀ls,Lv.Lc q' (fgB R ls)=fgB R (Lc v q ls)
 | []=>rfl|(k,e)::ls=>by
  have y:=YC j v ls;simp only[fgB,AK,Lv.Lc,Lc]at y ⊢;rw[y];congr 2;cases h:e.cs.any q with
  |true=>simp only[if_true,Mn j]|false=>rw[AT (by simp),Mn j,Vt h]
theorem K7{q:AS->Bool}{q':Lv.AS->Bool}(j:∀l,q' (AS.fg R l)=q l)(S:St):(S.fg R).kill q'=(S.kill q).fg R:=by
 simp only[St.fg,Lv.St.kill,St.kill,YD j S.nv,YC j S.nv]
theorem MU(S:St)(d:Nat)(sh:Sh)(cs:List AS):(S.Kb d sh cs).fg R={ S.fg R with tm:=Lv.put (S.fg R).tm d ⟨sh,cs.map (AS.fg R)⟩}:=by
 simp only[St.fg,St.Kb,AGh,fgE];rw[<-xy (Ent.fg R)];rfl
theorem Ui(S:St)(d:Nat)(cs:List AS):(S.O1 d cs).fg R={ S.fg R with bx:=Lv.put (S.fg R).bx d (cs.map (AS.fg R))}:=by
 simp only[St.fg,St.O1,AGh,fgB];rw[<-xy (λb:Bx=>b.cs.map (AS.fg R))]
theorem ACU(S:St)(ks:List Nat):(S.Im ks).fg R=(S.fg R).Im ks:=by
 simp only[St.fg,Lv.St.Im,St.Im,kN];rw[<-YD (AJ0 ks),<-YC (AJ0 ks)];simp only[fgE];rw[<-ZN]
theorem Sl(S:St)(ks:List Nat):(S.clean ks).fg R=(S.fg R).clean ks:=by
 simp only[St.fg,Lv.St.clean,St.clean,Zu];rw[<-YD (mC ks),<-YC (mC ks)];simp only[fgE,fgB];rw[<-Ro,<-Ro (λb:Bx=>b.cs.map (AS.fg R))]
theorem Jv(S:St)(r:CJ):(S.fg R).at r=(S.at r).map (AS.fg R):=by
 cases r with
 |tmp s c=>
  grind[Lv.St.at,St.at,Xj,get,Ent.fg]
 |cell s c=>
  grind[Lv.St.at,St.at,PI,get]
theorem GP(S:St)(r:CJ)(l:AS):(S.Bg r l).fg R=(S.fg R).Bg r (AS.fg R l):=by
 cases r with
 |tmp s c=>
  simp only[Lv.St.Bg,St.Bg,Xj];cases h:get S.tm s with
  |none=>rfl|some e=>simp[MU,Ent.fg]
 |cell s c=>
  simp only[Lv.St.Bg,St.Bg,PI];cases h:get S.bx s with
  |none=>rfl|some e=>simp[Ui]
theorem AEm{l:AS}:AS.fg R l=.t .nil↔l=.t .nil:=by
 cases l<;>simp[AS.fg];rename_i x;cases x<;>simp[U.fg]
theorem AYN(S:St)(r:CJ)(c:C):AS.fg R (S.nl0 r c)=(S.fg R).nl0 r c.size:=by
 cases r with
 |tmp s k=>rfl|cell id k=>
  simp only[St.nl0,Lv.St.nl0,Uc];have j:(S.fg R).pin=S.pin:=rfl
  grind[AS.fg,U.fg]
def Rw.fg:Rw->List (List T)|.nl=>[]|.of c xs=>xs.map (enc c)
theorem VW{x:U}{w:Rw}(h:content x=some w):Lv.content x.fg=some w.fg:=by
 cases x<;>simp[content]at h<;>subst h<;>rfl
theorem aV{α β:Type}(f:α->β)(sub:Option (Nat×Nat))(xs:List α):(nL sub xs).map f=nL sub (xs.map f):=by
 cases sub with
 |none=>rfl|some p=>simp[nL]
theorem yi(sub:Option (Nat×Nat))(xs:List (List T)):KB sub xs=nL sub xs:=by cases sub<;>rfl
theorem AUg(sub:Option (Nat×Nat))(w:Rw):(w.sub sub).fg=KB sub w.fg:=by
 cases w with
 |nl=>cases sub<;>simp[Rw.sub,Rw.fg,KB]
 |of c xs=>simp only[Rw.sub,Rw.fg,aV,yi]
theorem dv{c:C}{w:Rw}{ys:List c.D}(h:w.as c=some ys):w.fg=ys.map (enc c):=by
 cases w with
 |nl=>cases h;rfl
 |of q xs=>
  simp only[Rw.as]at h;split at h
  .rename_i j;subst j;cases h;rfl
  .cases h
theorem Yp(sub:Option (Nat×Nat))(x:U):(AG1 sub x).fg=oM sub x.fg:=by
 cases x<;>try rfl
 simp only[AG1,U.fg,oM,aV,yi]
theorem QX{S:St}{l:AS}{w:Rw}(h:S.elems l=some w):(S.fg R).elems (AS.fg R l)=some w.fg:=by
 unfold St.elems at h;split at h
 .grind[AS.fg,Lv.St.elems,Jv,VW,AUg]
 .cases h;rfl
 .cases h;rfl
 .cases h
theorem AXW(s c:Nat)(l:AS):AS.fg R (l.ali s c)=(AS.fg R l).ali s c:=by cases l<;>rfl
theorem s8(s:Nat):∀(c:Nat) (ls:List AS),(Sf s c ls).map (AS.fg R)=Lv.Sf s c (ls.map (AS.fg R))|_,[]=>rfl|c,l::ls=>by simp only[Sf,AK,Lv.Sf,AXW,s8 s (c+1) ls]
theorem AHC(b:Nat):∀(c:Nat) (ls:List AS),(RF b c ls).map (AS.fg R)=Lv.RF b c (ls.map (AS.fg R))
 |_,[]=>rfl|c,l::ls=>by
  have j:=AHC b (c+1) ls;cases l<;>simp only[RF,AK,AS.fg,Lv.RF,j]
theorem ASQ(x:U):AS.fg R (rV x)=Lv.rV x.fg:=by cases x<;>rfl
def YO.er(R:List GF):YO->Opd|.tmp t=>.tmp t|.k x=>.k x.fg|.fn n=>.fn (xr R n)
theorem Lg{S:St}{x:YO}{e:En}(h:S.rd x=some e):(S.fg R).rd (x.er R)=some (e.fg R):=by
 cases x with
 |tmp s=>
  grind[St.rd,YO.er,Lv.St.rd,Xj,get,Ent.fg,En.fg,s8]
 |k x=>cases h;simp[YO.er,Lv.St.rd,En.fg,ASQ]
 |fn n=>cases h;rfl
theorem aI{S:St}:∀{xs:List YO} {es:List En},S.rds xs=some es->(S.fg R).rds (xs.map (YO.er R))=some (es.map (En.fg R))
 | [],es,h=>by cases h;rfl
 |x::xs,es,h=>by
  simp only[St.rds]at h;split at h
  .rename_i e j q y;cases h;simp only[AK,Lv.St.rds,Lg q,aI y]
  .cases h
structure BZ(S S':St):Prop where
 nv:S.nv<=S'.nv
 tm:∀k e,get S'.tm k=some e->e.ver<S.nv->get S.tm k=some e
 bx:∀k e,get S'.bx k=some e->e.ver<S.nv->get S.bx k=some e
 pin:S'.pin=S.pin
theorem BZ.refl(S:St):BZ S S:=⟨Ab _,λ_ _ h _=>h,λ_ _ h _=>h,rfl⟩
theorem BZ.trans{S S' S2:St}(h:BZ S S')(q:BZ S' S2):BZ S S2:=
 ⟨Nat.le_trans h.nv q.nv,λk e y j=>h.tm k e (q.tm k e y (BV j h.nv)) j,λk e y j=>h.bx k e (q.bx k e y (BV j h.nv)) j,q.pin.trans h.pin⟩
theorem GD{α:Type}(l:List (Nat×α))(k j:Nat)(a:α):get (put l k a) j=if j=k then some a else get l j:=by
 induction l with
 |nil=>
  by_cases h:j=k
  .subst h;simp[put,get]
  grind[put,get,Nat.beq,beq_true]
 |cons p r q=>
  grind[put,Nat.beq,beq_true,get,beq_false,Nat.ble]
theorem BZ.Kb(S:St)(d:Nat)(sh:Sh)(cs:List AS):BZ S (S.Kb d sh cs):=by
 refine⟨by simp[St.Kb],λk e j q=>?_,λk e j _=>j,rfl⟩
 grind[St.Kb,GD]
theorem BZ.O1(S:St)(d:Nat)(cs:List AS):BZ S (S.O1 d cs):=by
 refine⟨by simp[St.O1],λk e j _=>j,λk e j q=>?_,rfl⟩
 grind[St.O1,GD]
theorem FW{v:Nat}{q:AS->Bool}:∀{l:List (Nat×Ent)} {k:Nat} {e:Ent},get (Ld v q l) k=some e->e.ver<v->get l k=some e
 | [],_,_,h,_=>h|(i,b)::r,k,e,h,y=>by
  simp only[Ld,get]at h ⊢;cases j:Nat.beq i k with
  |true=>
   grind[Option.some.injEq]
  |false=>rw[j]at h;exact FW h y
theorem DU{v:Nat}{q:AS->Bool}:∀{l:List (Nat×Bx)} {k:Nat} {e:Bx},get (Lc v q l) k=some e->e.ver<v->get l k=some e
 | [],_,_,h,_=>h|(i,b)::r,k,e,h,y=>by
  simp only[Lc,get]at h ⊢;cases j:Nat.beq i k with
  |true=>
   grind[Option.some.injEq]
  |false=>rw[j]at h;exact DU h y
theorem Lu{α:Type}{ks:List Nat}:∀{l:List (Nat×α)} {k:Nat} {e:α},get (KI ks l) k=some e->get l k=some e
 | [],_,_,h=>h|(i,b)::r,k,e,h=>by
  simp only[KI]at h;simp only[get];cases E:mem i ks with
  |true=>
   rw[E]at h;cases q:Nat.beq i k with
   |true=>
    have B:=beq_true q;subst B;exfalso;have:∀(l:List (Nat×α)) (e:α),get (KI ks l) i≠some e:=by
     intro l
     induction l with
     |nil=>intro e h;cases h
     |cons p r H=>
      intro e h;obtain⟨j,c⟩:=p;simp only[KI]at h;cases y:mem j ks with
      |true=>rw[y]at h;exact H e h|false=>
       rw[y]at h;simp only[get]at h;cases G:Nat.beq j i with
       |true=>have:=beq_true G;subst this;rw[E]at y;cases y
       |false=>rw[G]at h;exact H e h
    exact this r e h
   |false=>exact Lu h
  |false=>
   rw[E]at h;simp only[get]at h;cases q:Nat.beq i k with
   |true=>rw[q]at h;exact h|false=>rw[q]at h;exact Lu h
theorem Hc{α:Type}{ks:List Nat}:∀{l:List (Nat×α)} {k:Nat} {e:α},get (G8 ks l) k=some e->get l k=some e
 | [],_,_,h=>h|(i,b)::r,k,e,h=>by
  simp only[G8]at h;simp only[get];cases E:mem i ks with
  |false=>
   rw[E]at h;cases q:Nat.beq i k with
   |true=>
    have B:=beq_true q;subst B;exfalso;have:∀(l:List (Nat×α)) (e:α),get (G8 ks l) i≠some e:=by
     intro l
     induction l with
     |nil=>intro e h;cases h
     |cons p r H=>
      intro e h;obtain⟨j,c⟩:=p;simp only[G8]at h;cases y:mem j ks with
      |false=>rw[y]at h;exact H e h|true=>
       rw[y]at h;simp only[get]at h;cases G:Nat.beq j i with
       |true=>have:=beq_true G;subst this;rw[E]at y;cases y
       |false=>rw[G]at h;exact H e h
    exact this r e h
   |false=>exact Hc h
  |true=>
   rw[E]at h;simp only[get]at h;cases q:Nat.beq i k with
   |true=>rw[q]at h;exact h|false=>rw[q]at h;exact Hc h
theorem BZ.kill(S:St)(q:AS->Bool):BZ S (S.kill q):=
 ⟨by simp[St.kill],λ_ _ j y=>FW j y,λ_ _ j y=>DU j y,rfl⟩
theorem BZ.Im(S:St)(ks:List Nat):BZ S (S.Im ks):=
 ⟨by simp[St.Im],λ_ _ j q=>Lu (FW j q),λ_ _ j q=>DU j q,rfl⟩
theorem BZ.clean(S:St)(ks:List Nat):BZ S (S.clean ks):=
 ⟨by simp[St.clean],λ_ _ j q=>Hc (FW j q),λ_ _ j q=>Hc (DU j q),rfl⟩
theorem BZ.Bg(S:St)(r:CJ)(l:AS):BZ S (S.Bg r l):=by
 cases r<;>simp only[St.Bg]<;>split<;>first|exact BZ.Kb _ _ _ _|exact BZ.O1 _ _ _|exact BZ.refl _
theorem BZ.out(S:St)(r:CJ):BZ S (S.out r):=(BZ.Bg _ _ _).trans (BZ.kill _ _)
theorem BZ.Z8(S:St)(r:CJ)(c:C):BZ S (S.Z8 r c):=by
 unfold St.Z8 St.turn
 repeat' split
 all_goals first|exact BZ.refl _|exact BZ.Bg _ _ _|exact((BZ.out _ _).trans (BZ.Bg _ _ _)).trans (BZ.Bg _ _ _)
theorem BZ.Rs:∀(ns:List (CJ×C)) (S:St),BZ S (S.Rs ns)| [],S=>BZ.refl S|(r,c)::ns,S=>(BZ.Z8 S r c).trans (BZ.Rs ns _)
theorem Gx{γ:Type}(n:Nat)(K:Nat->γ):DX n K=K n:=by cases n<;>rfl
theorem U.E8{γ:Type}(x:U)(K:U->γ):x.GW K=K x:=by cases x<;>rfl
theorem kX{γ:Type}:∀(xs:List U) (K:List U->γ),dS xs K=K xs| [],K=>rfl|x::xs,K=>by simp only[dS,U.E8,kX xs]
theorem rG{γ:Type}(r:CJ)(K:CJ->γ):kV r K=K r:=by cases r<;>simp only[kV,Gx]
theorem ACd{γ:Type}(r:Src)(K:Src->γ):TR r K=K r:=by
 cases r with
 |own r p=>simp only[TR,rG];cases p with|none=>rfl|some p=>obtain⟨i,j⟩:=p;simp only[Gx]
 |old k=>simp only[TR,Gx]
theorem AS.E8{γ:Type}(x:AS)(K:AS->γ):x.GW K=K x:=by
 cases x<;>simp only[AS.GW,U.E8,rG,Gx,ACd,kX]
 grind
theorem RW{γ:Type}:∀(xs:List AS) (K:List AS->γ),UX xs K=K xs| [],K=>rfl|x::xs,K=>by simp only[UX,AS.E8,RW xs]
theorem Vg{γ:Type}:∀(xs:List (Option Nat)) (K:List (Option Nat)->γ),UY xs K=K xs| [],K=>rfl|none::xs,K=>by simp only[UY,Vg xs]|some n::xs,K=>by simp only[UY,Gx,Vg xs]
theorem kW{γ:Type}(x:Sh)(K:Sh->γ):dR x K=K x:=by cases x<;>simp only[dR,Vg,Gx]
theorem rD{γ:Type}:∀(xs:List (Nat×Ent)) (K:List (Nat×Ent)->γ),uX xs K=K xs| [],K=>rfl|(k,⟨sh,cs,v⟩)::xs,K=>by simp only[uX,kW,RW,Gx,rD xs]
theorem rC{γ:Type}:∀(xs:List (Nat×Bx)) (K:List (Nat×Bx)->γ),uW xs K=K xs| [],K=>rfl|(k,⟨cs,v⟩)::xs,K=>by simp only[uW,RW,Gx,rC xs]
theorem rF{γ:Type}:∀(xs:List Nat) (K:List Nat->γ),uY xs K=K xs| [],K=>rfl|k::xs,K=>by simp only[uY,rF xs]
theorem E8{γ:Type}(S:St)(K:St->γ):S.GW K=K S:=by
 obtain⟨tm,bx,pin,nv⟩:=S;simp only[St.GW,rD,rC,rF,Gx]
theorem AKK{α γ:Type}(s:Nat)(a:α):∀(l:List (Nat×α)) (K:List (Nat×α)->γ),AWP s a l K=K (put l s a)
 | [],K=>rfl|(k,b)::r,K=>by
  simp only[AWP,put];cases Nat.beq s k with
  |true=>rfl|false=>cases Nat.ble s k with|true=>rfl|false=>simp only[AKK s a r]
variable{ρ:Type}
theorem dg{S:St}{d:Nat}{sh:Sh}{cs:List AS}{K:St->Option ρ}{r:ρ}(h:Ho S d sh cs K=some r) :
 ∃S',(S.fg R).ES d ⟨sh,cs.map (AS.fg R)⟩=some (S'.fg R)/\BZ S S'/\K S'=some r:=by
 unfold Ho at h;cases q:mem d S.pin with
 |true=>rw[q]at h;cases h
 |false=>
  rw[q]at h;have y:d∉(S.fg R).pin:=N3.1 q;cases j:get S.tm d with
  |none=>
   rw[j]at h;simp only[kW,RW,Gx,AKK]at h;refine⟨S.Kb d sh cs,?_,BZ.Kb _ _ _ _,h⟩
   grind[MU,Lv.St.ES,Xj]
  |some e=>
   rw[j]at h;simp only[E8]at h;refine⟨_,?_,(BZ.kill _ _).trans (BZ.Kb _ _ _ _),h⟩;unfold Lv.St.ES;rw[AT y,Xj,j,MU,<-K7 (YH d),<-Mn (YH d)];rfl
end
end Y
namespace Y
section
variable{R:List GF}
theorem AV1(l:AS):Lv.xC (AS.fg R l)=xC l:=by cases l<;>rfl
theorem AUJ(a b:Option CJ):(match a with|some r=>isR b r|none=>b.isNone)=decide (a=b):=by
 cases a with
 |none=>cases b<;>simp
 |some r=>simp only[Zr];rw[decide_eq_decide];exact eq_comm
theorem sY:∀ls:List AS,Lv.Ov (ls.map (AS.fg R))=Ov ls
 | []=>rfl|l::ls=>by
  simp only[AK,Lv.Ov,Ov,sY ls,J0,Function.comp_def,AV1,LH];congr 1;refine congrArg (λf=>List.all ls f) (funext λl'=>?_);rw[<-AUJ]<;>(cases l.B7<;>rfl)
theorem Vx(S:St)(r:CJ):(S.out r).fg R=(S.fg R).out r:=by
 unfold St.out Lv.St.out;rw[<-K7 (ALf r),GP];rfl
theorem AWm(S:St)(r:CJ):(S.turn r).fg R=(S.fg R).turn r:=by
 unfold St.turn Lv.St.turn;rw[Jv];cases h:S.at r with
 |none=>rfl|some l=>
  cases l with
  |al r' sub=>
   cases sub with
   |none=>
    simp only[Ap,AS.fg];rw[Jv];cases j:S.at r' with
    |none=>rfl|some l'=>cases l'<;>simp[AS.fg,GP,Vx]
   |some p=>rfl
  |_=>rfl
theorem AWB(S:St)(r:CJ)(c:C):(S.Z8 r c).fg R=(S.fg R).Z8 r c.size:=by
 unfold St.Z8 Lv.St.Z8;cases j:Nat.beq c.size 0 with
 |true=>rw[AW (Ey j)];exact AWm S r|false=>
  rw[AT (IH j),Jv];cases h:S.at r with
  |none=>rfl|some l=>grind[AS.fg,U.fg,GP,AYN,AEm]
theorem xM:∀(ns:List (CJ×C)) (S:St),(S.Rs ns).fg R=(S.fg R).Rs (ns.map λp=>(p.1,p.2.size))| [],S=>rfl|(r,c)::ns,S=>by simp only[St.Rs,AK,Lv.St.Rs];rw[xM ns,AWB]
theorem nU:∀{ls:List AS} {S S':St} {ls':List AS},KP S ls=some (S',ls')->Lv.KP (S.fg R) (ls.map (AS.fg R))=some (S'.fg R,ls'.map (AS.fg R))/\BZ S S'
 | [],S,S',ls',h=>by cases h;exact⟨rfl,BZ.refl _⟩
 |l::ls,S,S',ls',h=>by
  have gen:(match KP S ls with|some (S',ls')=>some (S',l::ls')|none=>none)=some (S',ls') ->
   (match Lv.KP (S.fg R) (ls.map (AS.fg R)) with|some (S',ls')=>some (S',AS.fg R l::ls')|none=>none)=some (S'.fg R,ls'.map (AS.fg R))/\BZ S S':=by
   intro h;split at h
   .rename_i S2 E q;cases h;obtain⟨j,y⟩:=nU q;rw[j];exact⟨rfl,y⟩
   .cases h
  cases l with
  |al r sub=>
   simp only[KP]at h;simp only[AK,AS.fg,Lv.KP,Jv];split at h
   .rename_i x B;rw[B];split at h
    .rename_i S2 E q;cases h;obtain⟨j,y⟩:=nU q;rw[Vx]at j;simp only[Ap,AS.fg,j,AK,Yp];exact⟨trivial,(BZ.out _ _).trans y⟩
    .cases h
   .cases h
  |_=>exact gen h
theorem Q4{ls:List AS}{S S':St}{ls':List AS}(h:Lh S ls=some (S',ls')):Lv.Lh (S.fg R) (ls.map (AS.fg R))=some (S'.fg R,ls'.map (AS.fg R))/\BZ S S':=by
 grind[Lh,Lv.Lh,sY,nU]
theorem AVS{x:YO}{ls:List AS}{S S':St}{ls':List AS}(h:tL S x ls=some (S',ls')):Lv.tL (S.fg R) (x.er R) (ls.map (AS.fg R))=some (S'.fg R,ls'.map (AS.fg R))/\BZ S S':=by
 cases x with
 |tmp s=>
  unfold tL at h;unfold Lv.tL;simp only[YO.er];dsimp only at h;split at h
  .rename_i j;rw[AW (show s∈(S.fg R).pin from mem_iff.1 j)];cases h;exact⟨rfl,BZ.refl _⟩
  .rename_i j;rw[AT (show s∉(S.fg R).pin from N3.1 j)];exact Q4 h
 |k y=>exact Q4 h|fn n=>exact Q4 h
theorem lP(x:U):Lv.SW x.fg=SW x:=by cases x<;>rfl
theorem AV4(x:U):Lv.Zs x.fg=Zs x:=by cases x<;>rfl
theorem ALK(rows:List (List T)):∀(q:List (Nat×Nat)) (i j:Nat),NR rows (q++[(i,j)])=Jc (NR rows q) i j .top:=by
 intro q
 induction q generalizing rows with
 |nil=>intro i j;rfl
 |cons p q y=>intro i j;obtain⟨a,b⟩:=p;simp only[Bi,NR];exact y _ i j
theorem AKJ{S S':St}{r:CJ}{i j:Nat}(h:S.pull r i j=some S'):(S.fg R).pull r i j=some (S'.fg R)/\BZ S S':=by
 unfold St.pull at h;unfold Lv.St.pull;rw[Jv];split at h
 .rename_i c xs q;cases h;rw[q];simp only[Ap,AS.fg,U.fg,AD];refine⟨?_,(BZ.Bg _ _ _).trans (BZ.kill _ _)⟩;rw[<-K7 (Rv r),GP];rfl
 .rename_i c xs y q;cases h;rw[q];simp only[Ap,AS.fg,AD];refine⟨?_,(BZ.Bg _ _ _).trans (BZ.kill _ _)⟩;rw[<-K7 (Rv r),GP];simp only[AS.fg,ALK]
 .cases h
theorem ASs(r:CJ):∀ls:List AS,Lv.onR r (ls.map (AS.fg R))=onR r ls| []=>rfl|l::ls=>by simp only[AK,Lv.onR,onR,LH,Zr,ASs r ls]
theorem MT:∀{ls:List AS} {S S':St} {us:List U},Du S ls=some (S',us)->Lv.Du (S.fg R) (ls.map (AS.fg R))=some (S'.fg R,us.map U.fg)/\BZ S S'
 | [],S,S',us,h=>by cases h;exact⟨rfl,BZ.refl _⟩
 |l::ls,S,S',us,h=>by
  cases l with
  |t x=>
   simp only[Du]at h;simp only[AK,AS.fg,Lv.Du,lP];split at h
   .cases h
   .rename_i G;rw[AT G];split at h
    .rename_i S2 I B;cases h;obtain⟨y,E⟩:=MT B;rw[y];exact⟨rfl,E⟩
    .cases h
  |al r sub=>
   simp only[Du]at h;simp only[AK,AS.fg,Lv.Du,Jv];split at h
   .rename_i x H;rw[H];split at h
    .rename_i S2 I B;cases h;obtain⟨y,E⟩:=MT B;rw[Vx]at y;simp only[Ap,AS.fg,y,AK,Yp];exact⟨trivial,(BZ.out _ _).trans E⟩
    .cases h
   .cases h
  |vw s c xs=>
   cases s with
   |old k=>cases h
   |own r p=>
    cases p with
    |none=>
     simp only[Du]at h;simp only[AK,AS.fg,Lv.Du,Jv];split at h
     .rename_i x H;rw[H];split at h
      .rename_i S2 I B;cases h;obtain⟨y,E⟩:=MT B;rw[Vx]at y;simp only[Ap,AS.fg,y,AK,U.fg];exact⟨trivial,(BZ.out _ _).trans E⟩
      .cases h
     .cases h
    |some q=>
     obtain⟨i,j⟩:=q;simp only[Du]at h;simp only[AK,AS.fg,Lv.Du,ASs];split at h
     .cases h
     .rename_i G;rw[AT G];split at h
      .rename_i S1 J;obtain⟨L,O⟩:=AKJ (R:=R) J;rw[L];split at h
       .rename_i S2 I B;cases h;obtain⟨y,E⟩:=MT B;simp only[y,AK,U.fg];exact⟨trivial,O.trans E⟩
       .cases h
      .cases h
  |_=>cases h
theorem AUz{S:St}{l:AS}{u:U}(h:S.Hn l=some u):(S.fg R).Hn (AS.fg R l)=some u.fg:=by
 cases l with
 |t x=>cases h;rfl
 |al r sub=>
  grind[St.Hn,AS.fg,Lv.St.Hn,Jv,Yp]
 |vw s c xs=>cases h;rfl
 |ow x=>cases h;rfl
 |_=>cases h
theorem Up{S:St}:∀{ls:List AS} {us:List U},S.Hg ls=some us->(S.fg R).Hg (ls.map (AS.fg R))=some (us.map U.fg)
 | [],us,h=>by cases h;rfl
 |l::ls,us,h=>by
  simp only[St.Hg]at h;split at h
  .rename_i x xs j q;cases h;simp only[AK,Lv.St.Hg,AUz j,Up q]
  .cases h
theorem ANs{k:Nat}{l:AS}{u:U}(h:QC k l=some u):Lv.QC k (AS.fg R l)=some u.fg:=by
 cases l with
 |t x=>cases h;rfl
 |vw s c xs=>
  cases s with
  |own r p=>cases h
  |old q=>
   simp only[QC]at h;simp only[AS.fg,Lv.QC];split at h
   .rename_i j;cases h;rw[AW j];rfl
   .cases h
 |_=>cases h
theorem QD{k:Nat}:∀{ls:List AS} {us:List U},F5 k ls=some us->Lv.F5 k (ls.map (AS.fg R))=some (us.map U.fg)
 | [],us,h=>by cases h;rfl
 |l::ls,us,h=>by
  simp only[F5]at h;split at h
  .rename_i x xs j q;cases h;simp only[AK,Lv.F5,ANs j,QD q]
  .cases h
theorem Ob:∀ls:List AS,Lv.De (ls.map (AS.fg R))=De ls
 | []=>rfl|l::ls=>by
  have j:=Ob ls;cases l with
  |vw s c xs=>cases s with|old k=>rfl|own r p=>simpa[AS.fg,Lv.De,De] using j
  |_=>simpa[AS.fg,Lv.De,De] using j
theorem ASV(k:Nat)(u:U):AS.fg R (Ed k u)=Lv.Ed k u.fg:=by cases u<;>rfl
theorem ASR(u:U):AS.fg R (KN u)=Lv.KN u.fg:=by cases u<;>rfl
theorem rU(s:Src)(u:U):AS.fg R (K9 s u)=Lv.K9 s u.fg:=by cases u<;>rfl
theorem Qk(k:Nat)(us:List U):(us.map (Ed k)).map (AS.fg R)=(us.map U.fg).map (Lv.Ed k):=by simp[Function.comp_def,ASV]
theorem Z5(us:List U):(us.map KN).map (AS.fg R)=(us.map U.fg).map Lv.KN:=by simp[Function.comp_def,ASR]
theorem mr:∀ls:List AS,Lv.PX (ls.map (AS.fg R))=PX ls| []=>rfl|l::ls=>by simp only[AK,Lv.PX,PX,LH,mr ls]
theorem ALj(l:AS):Lv.Rz (AS.fg R l)=Rz l:=by
 cases l<;>try rfl
 .rename_i r sub;cases sub<;>rfl
 .rename_i s c xs;cases s with
  |own r p=>cases p<;>rfl
  |old k=>rfl
theorem AVV{S:St}{m:Bool}{l:Cap}{us:List U}(h:AXm S m l=some us):Lv.AKy (S.fg R) l.fg=some (match m with|false=>.v .one (us.map U.fg)|true=>.p (us.map U.fg)):=by
 cases m<;>cases l<;>simp only[AXm]at h
 .cases h;rfl
 .cases h;rfl
 .cases h
 .cases h
 .cases h
 .cases h
 .cases h;rfl
 .rename_i id off;simp only[Cap.fg,Lv.AKy,PI];split at h
  .rename_i ls j;rw[j];split at h
   .rename_i q;simp only[Ap,mr,q,if_true];have:=Up (R:=R) h;rw[Cl]at this;rw[this];rfl
   .cases h
  .cases h
theorem zY{S:St}:∀{l:List (Bool×C)} {cs:List Cap} {y:su l},AHY S l cs=some y->Lv.eD (S.fg R) (cs.map Cap.fg)=some (Sj l y)
 | [],[],y,h=>by cases h;rfl
 |(m,c)::l,[],y,h=>by cases h
 | [],a::cs,y,h=>by cases h
 |(m,c)::l,a::cs,y,h=>by
  simp only[AHY]at h;split at h
  .rename_i us j;split at h
   .rename_i x E q B;cases h;simp only[AK,Lv.eD,AVV j,zY B];cases m<;>simp only[Sj,I8 q]
   .cases h
  .cases h
theorem Yg{a b:Sh}(h:AND a b=true):a=b:=by cases a<;>cases b<;>simp[AND]at h<;>rfl
end
end Y
namespace Y
section
variable{R:List GF}
variable{c:C}{e:En}{xs:List CN}{fs:List Nat}{S:St}
def Al(R:List GF)(fs:List Nat)(xs:List CN):Prop:=∀(i:Nat) (x:CN) (n:Nat),xs[i]?=some x->fs[i]?=some n->xr R n=x
theorem Al.of(h:fs.map (λn=>(R[n]?).map GF.x)=xs.map some):Al R fs xs:=by
 intro i x n j q;have y:=congrArg (λl=>l[i]?) h;simp only[Ay,j,q,Ap]at y;unfold xr
 grind
theorem Al.nil(xs:List CN):Al R [] xs:=by intro i x n _ h;simp at h
theorem Al.tail{fs:List Nat}{x:CN}{xs:List CN}(h:Al R fs (x::xs)):Al R fs.tail xs:=by
 intro i y n q j;cases fs with
 |nil=>simp at j|cons a fs=>exact h (i+1) y n (by simpa using q) (by simpa using j)
theorem AUn(k:PK):k.md.FK=PK.FK k:=by cases k<;>rfl
theorem sk(k:PK):k.md.writes=PK.writes k:=by cases k<;>rfl
theorem AD9:∀(ks:List PK) (es:List En),Lv.Hl (ks.map PK.md) (es.map (En.fg R))=(Hl ks es).map (AS.fg R)
 | [],es=>by cases es<;>rfl
 |k::ks,[]=>rfl|k::ks,e::es=>by
  simp only[AK,Lv.Hl,Hl,AUn,Cs,AD9 ks es];congr 1;split<;>simp[En.fg]
def bp0:En->Option Nat|⟨.one,[.bp id 0]⟩=>some id|_=>none
def AX6:Lv.Ent->Option Nat|⟨.one,[.bp id 0]⟩=>some id|_=>none
theorem ANw(e:En):AX6 (e.fg R)=bp0 e:=by
 obtain⟨sh,cs⟩:=e;cases sh<;>try rfl
 rcases cs with _|⟨l,_|⟨j,ls⟩⟩
 .rfl
 .cases l<;>try rfl
  rename_i id off;cases off<;>rfl
 .cases l<;>try rfl
  rename_i id off;cases off<;>rfl
theorem AVQ(S:St)(c:C)(ks:List PK)(e:En)(es:List En):E4 S (.b c::ks) (e::es)=match bp0 e with
 |some id=>(match get S.bx id with|some ls=>E4 (S.O1 id (ls.cs.map λ_=>.t .top)) ks es|none=>E4 S ks es)
 |none=>E4 S ks es:=by
 obtain⟨sh,cs⟩:=e;cases sh<;>try rfl
 rcases cs with _|⟨l,_|⟨j,ls⟩⟩
 .rfl
 .cases l<;>try rfl
  rename_i id off;cases off<;>rfl
 .cases l<;>try rfl
  rename_i id off;cases off<;>rfl
theorem ASP(S:Lv.St)(ms:List Md)(e:Lv.Ent)(es:List Lv.Ent):Lv.E4 S (.b::ms) (e::es)=match AX6 e with
 |some id=>(match Lv.get S.bx id with|some ls=>Lv.E4 { S with bx:=Lv.put S.bx id (ls.map λ_=>.t .top)} ms es|none=>Lv.E4 S ms es)
 |none=>Lv.E4 S ms es:=by
 obtain⟨sh,cs⟩:=e;cases sh<;>try rfl
 rcases cs with _|⟨l,_|⟨j,ls⟩⟩
 .rfl
 .cases l<;>try rfl
  rename_i id off;cases off<;>rfl
 .cases l<;>try rfl
  rename_i id off;cases off<;>rfl
theorem QE:∀(ks:List PK) (S:St) (es:List En),(E4 S ks es).fg R=Lv.E4 (S.fg R) (ks.map PK.md) (es.map (En.fg R))/\BZ S (E4 S ks es)
 | [],S,es=>by cases es<;>exact⟨rfl,BZ.refl _⟩
 |k::ks,S,[]=>by exact⟨rfl,BZ.refl _⟩|k::ks,S,e::es=>by
  cases k with
  |b c=>
   rw[AVQ];simp only[AK,PK.md];rw[ASP,ANw];cases bp0 e with
   |none=>dsimp only;exact QE ks S es|some id=>
    simp only[PI];cases get S.bx id with
    |none=>exact QE ks S es|some ls=>
     obtain⟨j,q⟩:=QE ks (S.O1 id (ls.cs.map λ_=>.t .top)) es;refine⟨?_,(BZ.O1 _ _ _).trans q⟩;simp only[Ap];rw[j,Ui];simp[Function.comp_def,AS.fg,U.fg]
  |_=>
   have h:=QE ks S es;simpa only[E4,Lv.E4,AK,PK.md] using h
theorem AVG{x:c.D}(h:AXZ S c e=some x):Lv.Si (S.fg R) .p (e.fg R)=some (.p (enc c x)):=by
 simp only[AXZ]at h;split at h
 .rename_i id off;simp only[En.fg,AK,BX,AS.fg,Lv.Si,PI];split at h
  .rename_i ls j;rw[j];split at h
   .rename_i q;simp only[Ap,mr,q,if_true];split at h
    .rename_i us y;have:=Up (R:=R) y;rw[Cl]at this;rw[this,I8 h]
    .cases h
   .cases h
  .cases h
 .simp only[En.fg,AK,BX,AS.fg,Lv.Si,I8 h]
 .cases h
theorem AVE{x:c.D}(h:AXX S c e=some x):Lv.Si (S.fg R) .b (e.fg R)=some (.b (enc c x)):=by
 simp only[AXX]at h;split at h
 .rename_i id;simp only[En.fg,AK,BX,AS.fg,Lv.Si,PI];split at h
  .rename_i ls j;rw[j];split at h
   .rename_i us q;simp only[Ap,Ob,QD q,I8 h]
   .cases h
  .cases h
 .cases h
theorem AVF{x:CN}{l:List (Bool×C)}{y:su l}(hA:Al R fs (x::xs))(h:AXY S fs l e=some y):Lv.Si (S.fg R) .v (e.fg R)=some (.f x (Sj l y)):=by
 simp only[AXY]at h;split at h
 .rename_i n caps;split at h
  .rename_i B j;split at h
   .rename_i q;subst q;have:=hA 0 x B rfl rfl;simp only[En.fg,AK,BX,AS.fg,Lv.Si,zY h,this]
   .cases h
  .cases h
 .cases h
theorem AYO{S:Lv.St}{e:Lv.Ent}{cs:List T}(h:S.Hg e.cs=some cs):Lv.Si S .v e=some (.v e.sh cs):=by
 obtain⟨sh,ls⟩:=e;have gen:(match S.Hg ls with|some cs=>some (V.v sh cs)|none=>none)=some (.v sh cs):=by dsimp only at h;rw[h]
 cases sh<;>try exact gen
 rcases ls with _|⟨l,_|⟨j,ls⟩⟩
 .exact gen
 .cases l<;>try exact gen
  simp[Lv.St.Hg,Lv.St.Hn]at h
 .cases l<;>exact gen
theorem AVH{x:c.D}(h:AXa S c e=some x)(j:e.sh=shC c):Lv.Si (S.fg R) .v (e.fg R)=some (.v (shC c) (enc c x)):=by
 simp only[AXa]at h;split at h
 .rename_i us q;have:=AYO (e:=e.fg R) (Up (R:=R) q);rw[this];simp only[En.fg,j,I8 h]
 .cases h
theorem Rr{S:St}:∀{ks:List PK} {fs:List Nat} {es:List En} {us:List U} {a:A ks},Al R fs (fX ks)->JZ S fs ks es us=some a->Lv.JZ (S.fg R) (ks.map PK.md) (es.map (En.fg R)) (us.map U.fg)=some (aVs ks a)
 | [],fs,[],us,a,_,h=>by simp[Lv.JZ,aVs]| [],fs,e::es,us,a,_,h=>by simp[JZ]at h|k::ks,fs,[],us,a,_,h=>by simp[JZ]at h|k::ks,fs,e::es,us,a,hA,h=>by
  cases k with
  |o c=>
   simp only[JZ]at h;split at h
   .rename_i B;split at h
    .rename_i x y j q;cases h;have E:=Rr (show Al R fs (fX ks) from hA) q;rw[Cl]at E;simp only[AK,PK.md,Lv.JZ,En.fg,Ac,E,aVs,PK.V,I8 j,DB,Yg B]
    .cases h
   .cases h
  |m c=>
   simp only[JZ]at h;split at h
   .rename_i B;split at h
    .rename_i x y j q;cases h;have E:=Rr (show Al R fs (fX ks) from hA) q;rw[Cl]at E;have G:(e.cs.map (AS.fg R)).all Lv.Rz=true:=by rw[J0];simpa[Function.comp_def,ALj] using B.2.1
     simp only[AK,PK.md,Lv.JZ,En.fg,Ac,E,aVs,PK.V,I8 j,DB,Yg B.1,G];rw[AW ⟨trivial,by rw[<-Yg B.1];exact B.2.2⟩]
    .cases h
   .cases h
  |f x l=>
   simp only[JZ]at h;split at h
   .rename_i y z j q;cases h;simp only[AK,PK.md,Lv.JZ,AVF hA j,Rr hA.tail q,aVs,PK.V]
   .cases h
  |v c=>
   simp only[JZ]at h;split at h
   .rename_i B;split at h
    .rename_i y z j q;cases h;simp only[AK,PK.md,Lv.JZ,AVH j (Yg B),Rr (show Al R fs (fX ks) from hA) q,aVs,PK.V]
    .cases h
   .cases h
  |p c=>
   simp only[JZ]at h;split at h
   .rename_i y z j q;cases h;simp only[AK,PK.md,Lv.JZ,AVG j,Rr (show Al R fs (fX ks) from hA) q,aVs,PK.V]
   .cases h
  |b c=>
   simp only[JZ]at h;split at h
   .rename_i y z j q;cases h;simp only[AK,PK.md,Lv.JZ,AVE j,Rr (show Al R fs (fX ks) from hA) q,aVs,PK.V]
   .cases h
theorem ANq{S':St}{ks:List PK}{es:List En}{a:A ks}(hA:Al R fs (fX ks))(h:WL S fs ks es=some (S',a)) :
 Lv.WL (S.fg R) (ks.map PK.md) (es.map (En.fg R))=some (S'.fg R,aVs ks a)/\BZ S S':=by
 unfold WL at h;unfold Lv.WL;split at h
 .rename_i S1 us j;obtain⟨q,y⟩:=MT (R:=R) j;rw[AD9,q];split at h
  .rename_i H B;cases h;obtain⟨E,G⟩:=QE (R:=R) ks S1 es;simp only[Rr hA B,E];exact⟨trivial,y.trans G⟩
  .cases h
 .cases h
theorem ll(l:AS):Lv.names (AS.fg R l)=names l:=by
 cases l<;>try rfl
 rename_i n caps;simp only[AS.fg,Lv.names,names,List.filterMap_map];congr 1;funext c;cases c<;>rfl
theorem ANE(l l':AS):Lv.T1 (AS.fg R l) (AS.fg R l')=T1 l l':=by
 grind[Lv.T1,T1,LH,ll,YG,Zr]
theorem ANF(l l':AS):Lv.R7 (AS.fg R l) (AS.fg R l')=R7 l l':=by
 grind[Lv.R7,R7,LH,ll,YG,Zr]
theorem ANG(e j:En):Lv.shares (e.fg R) (j.fg R)=shares e j:=by
 simp only[Lv.shares,shares,En.fg,Hp,Function.comp_def,ANE]
theorem za:∀(ks:List PK) (prev es:List En),Lv.QF (prev.map (En.fg R)) (ks.map PK.md) (es.map (En.fg R))=QF prev ks es
 | [],prev,es=>by cases es<;>rfl
 |k::ks,prev,[]=>rfl|k::ks,prev,e::es=>by
  have j:=za ks (e::prev) es;simp only[AK]at j ⊢;simp only[Lv.QF,QF,sk,Hp,Function.comp_def,ANG,j]
end
end Y
theorem AHI{b:Bool}{y:Option γ}(h:br b x y=some r):(b=true/\x=some r)\/(b=false/\y=some r):=by
 grind[AXi]
theorem Qb{γ:Type}{p:Prop} [Decidable p] {x:Option γ} {r:γ} (h:gd p x=some r):p/\x=some r:=by
 grind[AO3]
theorem WS{f:α->Option γ}(h:bd o f=some r):∃a,o=some a/\f a=some r:=ob (tI o f▸h)
theorem Ye(X:List (List T))(i j:Nat)(o:T)(k:Nat):(Jc X i j o)[k]?=if k=i then (X[i]?).map (λrow=>row.set j o) else X[k]?:=by
 grind[Jc,List.getElem?_eq_getElem,List.getElem?_eq_none]
theorem ANB(X:List (List T))(i j y q:Nat)(o t:T)(h:q≠j):Jc (Jc X y q t) i j o=Jc (Jc X i j o) y q t:=by
 apply Fw
 grind[Ye,List.set_comm]
theorem ANC(X:List (List T))(i j:Nat)(o t:T):Jc (Jc X i j t) i j o=Jc X i j o:=by
 apply Fw;intro k;simp only[Ye];by_cases q:k=i
 .subst q;simp only[if_true];cases X[k]? with|none=>rfl|some row=>simp
 .simp only[AT q]
namespace Y
section
variable{R:List GF}{ρ:Type}
theorem rL(i j:Nat)(o:T):∀(q:List (Nat×Nat)) (X:List (List T)),(∀p∈q,p.2≠j)->Jc (NR X q) i j o=NR (Jc X i j o) q
 | [],X,_=>rfl|(a,b)::q,X,h=>by
  simp only[NR];rw[rL i j o q _ (λp y=>h p (by simp[y])),ANB X i j a b o .top (h (a,b) (by simp))]
theorem AUQ{c:C}{xs:List c.D}{i j:Nat}{o:U}{x y:c.D}(q:xs[i]?=some x)(h:ofC c ((cells c x).set j o)=some y):Jc (xs.map (enc c)) i j o.fg=(xs.set i y).map (enc c):=by
 have B:i<xs.length:=(AP.1 q).1;apply Fw;intro k;simp only[Ye,Ay,EI];by_cases E:k=i
 .subst E;simp only[if_true,q,Ap,B,AD];rw[I8 h,FV,Hq]
 grind
theorem OS:∀{ls:List AS} {us:List U} {S:St} {K:St->Option ρ} {r:ρ},Hj S ls us K=some r ->
 ∃S',Lv.Hj (S.fg R) (ls.map (AS.fg R)) (us.map U.fg)=some (S'.fg R)/\BZ S S'/\K S'=some r
 | [],[],S,K,r,h=>⟨S,rfl,BZ.refl _,h⟩| [],u::us,S,K,r,h=>by simp[Hj]at h|l::ls,[],S,K,r,h=>by cases l<;>simp[Hj]at h
 |l::ls,o::us,S,K,r,h=>by
  cases l with
  |t x=>
   have h:Hj S ls us K=some r:=h;obtain⟨S',y,B,E⟩:=OS h;exact⟨S',y,B,E⟩
  |al q sub=>
   cases sub with
   |some p=>simp[Hj]at h|none=>
    have h:Hj (S.Bg q (.ow o)) ls us K=some r:=h;obtain⟨S',y,B,E⟩:=OS h;refine⟨S',?_,(BZ.Bg _ _ _).trans B,E⟩;rw[GP]at y;exact y
  |vw s c xs=>
   cases s with
   |old k=>simp[Hj]at h|own q p=>
    cases p with
    |none=>simp[Hj]at h|some p=>
     obtain⟨i,j⟩:=p;simp only[Hj]at h;split at h
     .rename_i c' rows i' Z H I;split at h
      .rename_i Q;obtain⟨rfl,G⟩:=Q;obtain⟨rfl,h⟩:=Qb h;obtain⟨x,Y,h⟩:=WS h;split at h
       .rename_i x' L;obtain⟨S',y,B,E⟩:=OS h;refine⟨S',?_,((BZ.Bg _ _ _).trans (BZ.kill _ _)).trans B,E⟩;have J:∀p∈H,p.2≠Z:=by
         intro p X;have:=List.all_eq_true.1 G p X;intro O;simp[O]at this
        simp only[AK,AS.fg,Lv.Hj,Jv,I,Ap];rw[<-K7 (Rv q),GP]at y;rw[<-y];congr 3;simp only[NR];rw[rL _ _ _ H _ J,ANC,AUQ Y L];cases H with
        |nil=>simp only[AS.fg,U.fg,NR]|cons p H=>simp only[AS.fg]
       .cases h
      .cases h
     .cases h
  |_=>simp[Hj]at h
theorem AV8(S0 S:Lv.St)(ms:List Md)(e:Lv.Ent)(es:List Lv.Ent)(outs:List (List T)):Lv.F4 S0 S (.b::ms) (e::es) outs=match AX6 e,outs with
 |some id,o::outs=>(match Lv.get S0.bx id,Lv.get S.bx id with
  |some ls,some j=>if o.length=j.length then Lv.F4 S0 { S with bx:=Lv.put S.bx id (o.map (Lv.Ed (Lv.De ls)))} ms es outs else none
  |_,_=>none)
 |_,_=>none:=by
 obtain⟨sh,cs⟩:=e;cases sh<;>try rfl
 rcases cs with _|⟨l,_|⟨q,ls⟩⟩
 .rfl
 .cases l<;>try rfl
  rename_i id off;cases off<;>cases outs<;>rfl
 .cases l<;>try rfl
  rename_i id off;cases off<;>rfl
theorem AXe{S0 S:St}{c:C}{ks:List PK}{e:En}{es:List En}{outs:List (List U)}{K:St->Option ρ}:F4 S0 S (.b c::ks) (e::es) outs K=match bp0 e,outs with
 |some id,o::outs=>(match get S0.bx id,get S.bx id with
  |some ls,some j=>if o.length=j.cs.length then F4 S0 (S.O1 id (o.map (Ed (De ls.cs)))) ks es outs K else none|_,_=>none)
 |_,_=>none:=by
 obtain⟨sh,cs⟩:=e;cases sh<;>try rfl
 rcases cs with _|⟨l,_|⟨q,ls⟩⟩
 .rfl
 .cases l<;>try rfl
  rename_i id off;cases off<;>cases outs<;>rfl
 .cases l<;>try rfl
  rename_i id off;cases off<;>rfl
theorem OF{S0:St}:∀{ks:List PK} {es:List En} {outs:List (List U)} {S:St} {K:St->Option ρ} {r:ρ},F4 S0 S ks es outs K=some r ->
 ∃S',Lv.F4 (S0.fg R) (S.fg R) (ks.map PK.md) (es.map (En.fg R)) (outs.map λo=>o.map U.fg)=some (S'.fg R)/\BZ S S'/\K S'=some r
 | [],es,[],S,K,r,h=>by
  refine⟨S,?_,BZ.refl _,?_⟩
  .cases es<;>rfl
  .cases es<;>exact h
 | [],es,o::outs,S,K,r,h=>by cases es<;>simp[F4]at h
 |k::ks,[],outs,S,K,r,h=>by cases outs<;>simp[F4]at h
 |k::ks,e::es,outs,S,K,r,h=>by
  cases k with
  |b c=>
   rw[AXe]at h;simp only[AK,PK.md];rw[AV8,ANw];split at h
   .rename_i id o outs' J;rw[J];simp only[AK,PI];split at h
    .rename_i ls O L E;rw[L,E];split at h
     .rename_i B;obtain⟨S',j,q,y⟩:=OF h;refine⟨S',?_,(BZ.O1 _ _ _).trans q,y⟩;simp only[Ap,Ac,B,if_true];rw[Ui,Qk]at j;rw[Ob];exact j
     .cases h
    .cases h
   .cases h
  |m c=>
   cases outs with
   |nil=>simp[F4]at h|cons o outs=>
    have h:Hj S e.cs o (λS'=>F4 S0 S' ks es outs K)=some r:=h;obtain⟨S1,j,q,y⟩:=OS (R:=R) h;obtain⟨S',G,H,I⟩:=OF y;refine⟨S',?_,q.trans H,I⟩;simp only[AK,PK.md,Lv.F4,En.fg,j];exact G
  |v c=>
   have h:F4 S0 S ks es outs K=some r:=by cases outs<;>exact h
   obtain⟨S',j,q,y⟩:=OF h;refine⟨S',?_,q,y⟩;cases outs<;>exact j
  |p c=>
   have h:F4 S0 S ks es outs K=some r:=by cases outs<;>exact h
   obtain⟨S',j,q,y⟩:=OF h;refine⟨S',?_,q,y⟩;cases outs<;>exact j
  |o c=>
   have h:F4 S0 S ks es outs K=some r:=by cases outs<;>exact h
   obtain⟨S',j,q,y⟩:=OF h;refine⟨S',?_,q,y⟩;cases outs<;>exact j
  |f x l=>
   have h:F4 S0 S ks es outs K=some r:=by cases outs<;>exact h
   obtain⟨S',j,q,y⟩:=OF h;refine⟨S',?_,q,y⟩;cases outs<;>exact j
theorem ln{S:St}{d:Nat}{ls:List AS}{K:St->Option ρ}{r:ρ}(h:Qm S d ls K=some r):∃S',Lv.Qm (S.fg R) d (ls.map (AS.fg R))=some (S'.fg R)/\BZ S S'/\K S'=some r:=by
 unfold Qm at h;split at h
 .cases h
 .rename_i j;have q:d∉(S.fg R).pin:=N3.1 j;refine⟨_,?_,((BZ.kill _ _).trans (BZ.Kb _ _ _ _)).trans (BZ.O1 _ _ _),h⟩;unfold Lv.Qm;rw[AT q,Ui,MU,<-K7 (q':=λl=>Lv.FJ d l||Lv.F9 d l) (λl=>by rw[YH,YG])];rfl
theorem AV7{S:St}{e:En}{k:Nat}(h:lR S e=some k):Lv.lR (S.fg R) (e.fg R)=some k:=by
 have gen:∀(cs:List AS),(if (F5 (De cs) cs).isSome=true then some (De cs) else none)=some k->(if (Lv.F5 (Lv.De (cs.map (AS.fg R))) (cs.map (AS.fg R))).isSome=true then some (Lv.De (cs.map (AS.fg R))) else none)=some k:=by
  intro cs h;rw[Ob];cases q:F5 (De cs) cs with
  |none=>rw[q]at h;simp at h|some us=>rw[QD q];rw[q]at h;simpa using h
 obtain⟨sh,cs⟩:=e;cases sh<;>try exact gen cs h
 rcases cs with _|⟨l,_|⟨y,ls⟩⟩
 .exact gen [] h
 .have j:=gen [l];cases l with
  |bp id off=>
   grind[lR,En.fg,AS.fg,Lv.lR,PI]
  |_=>exact j h
 .have j:=gen (l::y::ls);cases l<;>exact j h
theorem AJ6{g:GF}{S0:St}{es:List En}{k lab:Nat}(h:lS g.ps S0 es k=some lab):Lv.lS g.x (S0.fg R) (es.map (En.fg R)) k=some lab:=by
 unfold lS at h;unfold Lv.lS;rw[g.ms];simp only[Ay];split at h
 .rename_i e B;rw[B];simp only[Ap];split at h
  .cases h
  .rename_i E;rw[AT]
   .exact AV7 h
   .intro j;cases y:g.ps[k]? with
    |none=>rw[y]at j;simp at j|some q=>rw[y]at j;cases q<;>simp[PK.md]at j;exact E _ y
 .cases h
theorem kR:∀(cs:List C) (x:Tu cs),RP cs x=(Sk cs x).map λl=>l.map U.fg| [],_=>rfl| [c],x=>congrArg (λz=>[z]) (FV c x)|c::j::cs,x=>by simp only[RP,Sk,AK,FV,kR (j::cs) x.2]
theorem AWL{d:Nat}{g:GF}{es:List En}{S0 S:St}{x:Tu (g.rk.cs++ME g.ps)}{K:St->Option ρ}{r:ρ}(h:post d g es S0 S x K=some r) :
 ∃S',Lv.post d g.x (es.map (En.fg R)) (S0.fg R) (S.fg R) g.rk.sh ((RP _ x).take g.rk.cs.length).flatten ((RP _ x).drop g.rk.cs.length)=some (S'.fg R)/\BZ S S'/\K S'=some r:=by
 unfold post at h;obtain⟨S1,J,G,j⟩:=OF (R:=R) h;unfold Lv.post;rw[g.ms,kR,<-Cl,J,<-DB,<-Kg];generalize ((Sk (g.rk.cs++ME g.ps) x).take g.rk.cs.length).flatten=us at j;dsimp only;cases I:g.rk with
 |ptr k c=>
  rw[I]at j;simp only[RK.sh];dsimp only at j;split at j
  .rename_i lab H;rw[AJ6 H];obtain⟨S2,q,y,B⟩:=ln (R:=R) j;rw[Qk]at q;exact⟨S2,q,G.trans y,B⟩
  .cases j
 |vw k c=>
  rw[I]at j;simp only[RK.sh];dsimp only at j;split at j
  .rename_i lab H;rw[AJ6 H];obtain⟨S2,q,y,B⟩:=dg (R:=R) j;rw[Qk]at q;exact⟨S2,q,G.trans y,B⟩
  .cases j
 |ret cs=>
  rw[I]at j;dsimp only at j;obtain⟨S2,q,y,B⟩:=dg (R:=R) j;rw[Z5]at q;refine⟨S2,?_,G.trans y,B⟩;simp only[RK.sh];cases E:ADv (cs.map wC) with
  |ptr k=>exfalso;revert E;unfold ADv;split<;>simp|vw k=>exfalso;revert E;unfold ADv;split<;>simp|one=>rw[E]at q;exact q|agg=>rw[E]at q;exact q|tup ns=>rw[E]at q;exact q
theorem zV{d:Nat}{g:GF}{fs:List Nat}{es:List En}{S:St}{K:St->Option ρ}{r:ρ}(hA:Al R fs (fX g.ps))(h:AHX d g fs es S K=some r) :
 ∃S1 vs cs outs S',Lv.pre g.x (es.map (En.fg R)) (S.fg R)=some (S1,vs)/\KC g.x vs g.rk.sh cs outs/\Lv.post d g.x (es.map (En.fg R)) (S.fg R) S1 g.rk.sh cs outs=some (S'.fg R)/\BZ S S'/\K S'=some r:=by
 unfold AHX at h;split at h
 .cases h
 .rename_i H;split at h
  .rename_i S1 a j;obtain⟨x,I,h⟩:=WS h;obtain⟨q,y⟩:=ANq hA j;obtain⟨S',B,E,G⟩:=AWL (R:=R) h;refine⟨_,_,_,_,S',?_,g.ok a x I,B,y.trans E,G⟩;unfold Lv.pre;rw[g.ms];have:=za (R:=R) g.ps [] es;rw[BX]at this;rw[this,H,AT (by decide),q]
  .cases h
end
end Y
namespace Y
section
variable{R:List GF}{ρ:Type}
variable{l:AS}{op:BinOp}{cst:Bool}{c:C}{a b:Int}{k:IntKind}{ys:List c.D}{S:St}{K:U->Option ρ}
theorem E5{x:YO}(h:S.one x=some l):(S.fg R).one (x.er R)=some (AS.fg R l):=by
 unfold St.one at h;split at h
 .rename_i l' j;cases h;simp only[Lv.St.one,Lg j,En.fg,AK,BX]
 .cases h
theorem PW{x:YO}{u:U}(h:S.sc x=some u):(S.fg R).sc (x.er R)=some u.fg:=by
 unfold St.sc AGw at h;split at h
 .rename_i o l' j;cases h;simp only[Lv.St.sc,Lg j,En.fg,AK,BX,AS.fg,Lv.AGw]
 .cases h
theorem Tm{x:YO}{n:Int}(h:S.nat x=some n):(S.fg R).nat (x.er R)=some n:=by
 unfold St.nat at h;split at h
 .rename_i u j;simp only[Lv.St.nat,PW j];cases u<;>simp[AZK]at h<;>subst h<;>rfl
 .cases h
theorem AXx{k:Kd}{a b:U}{c:Bool}(h:eqU k a b=some c):eqT k a.fg b.fg=some c:=by
 cases k<;>cases a<;>cases b<;>simp only[eqU]at h<;>first|cases h;done|exact h
theorem AJg:∀{ks:List Kd} {as j:List U} {c:Bool},ACY ks as j=some c->Sa ks (as.map U.fg) (j.map U.fg)=some c
 | [],[],[],c,h=>h| [],[],b::j,c,h=>by simp[ACY]at h| [],a::as,j,c,h=>by cases j<;>simp[ACY]at h
 |k::ks,[],j,c,h=>by cases j<;>simp[ACY]at h
 |k::ks,a::as,[],c,h=>by simp[ACY]at h|k::ks,a::as,b::j,c,h=>by
  simp only[ACY]at h;split at h
  .rename_i x y q B;cases h;simp only[AK,Sa,AXx q,AJg B]
  .cases h
theorem yk:∀{ls:List AS} {us:List U},WD ls=some us->Lv.WD (ls.map (AS.fg R))=some (us.map U.fg)
 | [],us,h=>by cases h;rfl
 |l::ls,us,h=>by
  cases l with
  |t x=>
   simp only[WD]at h;split at h
   .rename_i q j;cases h;simp only[AK,AS.fg,Lv.WD,yk j,Ap]
   .cases h
  |_=>simp[WD]at h
theorem AO4{cst:Bool}{p:Prop} [Decidable p] {x:Option ρ} {r:ρ} (h:gdc cst p x=some r):p/\x=some r:=by
 cases cst with
 |true=>simp only[gdc]at h;split at h<;>simp_all|false=>exact Qb h
theorem AV0{r:ρ}(h:AX3 cst op k a b K=some r):∃u,bX op k a b=some (U.fg u)/\K u=some r:=by
 cases op<;>simp only[AX3]at h<;>first
  |exact⟨_,rfl,h⟩|(obtain⟨j,h⟩:=AO4 h;exact⟨_,by simp only[bX];rw[AT j];rfl,h⟩)
  |cases h
theorem AUU{r:ρ}(h:shU cst op k a b K=some r):∃u,AGx op k a b=some (U.fg u)/\K u=some r:=by
 cases op<;>simp only[shU]at h<;>first
  |cases h;done
  |(obtain⟨j,h⟩:=AO4 h;exact⟨_,by simp only[AGx];rw[AT j];rfl,h⟩)
theorem AUq(n:Int):(U.u8 (toB n)).fg=.int .u8 (IntKind.u8.wrap n):=by simp only[U.fg,ANV]
theorem AXk{r:ρ}(h:byU op a b K=some r):∃u,bX op .u8 a b=some (U.fg u)/\K u=some r/\AV3 op=false:=by
 cases op<;>simp only[byU]at h<;>first
  |cases h;done
  |exact⟨_,by rw[AUq];rfl,h,rfl⟩|exact⟨_,rfl,h,rfl⟩
theorem tJ{j:IntKind}:eA op (.int k a) (.int j b)=if AV3 op=true then AGx op k a b else if k=j then bX op k a b else none:=by
 cases op<;>rfl
theorem AVN{x y:U}{r:ρ}(h:AXf cst op x y K=some r):∃u,eA op x.fg y.fg=some (U.fg u)/\K u=some r:=by
 unfold AXf at h;split at h
 .rename_i k a E b;split at h
  .rename_i B;obtain⟨u,j,q⟩:=AUU h;exact⟨u,by show eA op (.int k a) (.int E b)=_;rw[tJ,AW B];exact j,q⟩
  .rename_i B;split at h
   .rename_i H;split at h
    .cases h
    .obtain⟨u,j,q⟩:=AV0 h;exact⟨u,by show eA op (.int k a) (.int E b)=_;rw[tJ,AT B,AW H];exact j,q⟩
   .cases h
 .rename_i k a b;split at h
  .rename_i B;obtain⟨u,j,q⟩:=AUU h;exact⟨u,by show eA op (.int k a) (.int .u8 b.toNat)=_;rw[tJ,AW B];exact j,q⟩
  .cases h
 .rename_i a b;obtain⟨u,j,q,G⟩:=AXk h;exact⟨u,by show eA op (.int .u8 a.toNat) (.int .u8 b.toNat)=_;rw[tJ,AT (by simp[G]),AW rfl];exact j,q⟩
 .rename_i a b;split at h
  .obtain⟨j,h⟩:=Qb h;exact⟨_,by show (if a.length+b.length<=P1 then some (T.str (a++b)) else none)=some (U.fg (.str (a++b)));rw[AW j];rfl,h⟩
  .exact⟨_,rfl,h⟩
  .exact⟨_,rfl,h⟩
  .cases h
 .cases h
theorem AEk{b:Bool}{r:ρ}(h:eqK op b K=some r):∃u,nz op b=some (U.fg u)/\K u=some r:=by
 cases op<;>simp only[eqK]at h<;>first
  |cases h;done
  |exact⟨_,rfl,h⟩
theorem bc{α β:Type}{f:α->β}{xs:List α}(h:xs.isEmpty=false):∃y ys,xs.map f=y::ys:=by
 cases xs with
 |nil=>simp at h|cons x xs=>exact⟨_,_,rfl⟩
theorem AWC{K:Bool->Option ρ}{r:ρ}(h:S.Vu l K=some r):∃b,(S.fg R).Vu (AS.fg R l)=some b/\K b=some r:=by
 unfold St.Vu at h;split at h
 .exact⟨true,rfl,h⟩
 .rename_i s c xs;obtain⟨j,h⟩:=Qb h;obtain⟨y,ys,E⟩:=bc (f:=enc c) j;exact⟨false,by simp only[AS.fg,E,Lv.St.Vu],h⟩
 .rename_i q;simp only[AS.fg,Lv.St.Vu,Jv];split at h
  .rename_i B;rw[B];exact⟨true,rfl,h⟩
  .rename_i c xs B;rw[B];obtain⟨j,h⟩:=Qb h;obtain⟨y,ys,E⟩:=bc (f:=enc c) j;exact⟨false,by simp only[Ap,AS.fg,U.fg,E],h⟩
  .cases h
 .cases h
theorem AXg{c:Cls}{x y:En}{r:ρ}(h:S.bin cst c op x y K=some r):∃u,(S.fg R).bin c op (x.fg R) (y.fg R)=some (U.fg u)/\K u=some r:=by
 unfold St.bin at h;split at h
 .split at h
  .exact AVN h
  .cases h
 .split at h
  .exact AEk h
  .cases h
 .split at h
  .obtain⟨b,j,q⟩:=AWC (R:=R) h;obtain⟨u,B,E⟩:=AEk q;rename_i l;exact⟨u,by show (match (S.fg R).Vu (AS.fg R l) with|some b=>nz op b|none=>none)=_;rw[j];exact B,E⟩
  .cases h
 .split at h
  .split at h
   .rename_i G H j q;split at h
    .rename_i b I;obtain⟨u,B,E⟩:=AEk h;refine⟨u,?_,E⟩;simp only[En.fg,Lv.St.bin,yk j,yk q,AJg I,B]
    .cases h
   .cases h
  .cases h
theorem AYm{op:UnOp}{x:U}{r:ρ}(h:unU op x K=some r):∃u,unT op x.fg=some (U.fg u)/\K u=some r:=by
 unfold unU at h;split at h
 .cases op<;>simp only at h<;>first|cases h;done|exact⟨_,rfl,h⟩
 .cases op<;>simp only at h<;>first|cases h;done|(split at h;cases h;exact⟨_,rfl,h⟩)
 .cases h
theorem ASZ(k:IntKind)(n:Int):(mkInt k n).fg=.int k (k.wrap n):=by cases k<;>simp only[mkInt,AUq]<;>rfl
theorem ALJ:∀(n:Nat) (x:tD n),U7 (.st n)=true->(AY4 n x).all flat=true|0,x,_=>rfl|1,x,h=>absurd h (by decide)|2,x,_=>rfl|3,x,_=>rfl|4,x,_=>rfl|5,x,_=>rfl|6,x,h=>absurd h (by decide)|7,x,h=>absurd h (by decide)|8,x,h=>absurd h (by decide)|9,x,_=>rfl|10,x,_=>rfl|11,x,h=>absurd h (by decide)|12,x,h=>absurd h (by decide)|13,x,h=>absurd h (by decide)|14,x,h=>absurd h (by decide)|15,x,_=>rfl|16,x,h=>absurd h (by decide)|17,x,h=>absurd h (by decide)|_+18,x,_=>rfl
theorem ALI{c:C}(h:U7 c=true)(x:c.D):(enc c x).all flat=true:=by
 cases c with
 |l c=>cases h
 |m=>cases h
 |st n=>exact ALJ n x h|un n=>cases h
 |_=>rfl
theorem JU(h:U7 c=true)(xs:List c.D):HC (xs.map (enc c))=true:=by
 grind[HC,List.all_map,List.all_eq_true,ALI]
theorem AWh{fl:Bool}{S':St}(h:P6 c fl S l=some (S',ys)):Lv.P6 c.size fl (S.fg R) (AS.fg R l)=some (S'.fg R,ys.map (enc c))/\BZ S S':=by
 unfold P6 at h;split at h
 .rename_i s;split at h
  .rename_i xs j;cases h;have y:C.u=c:=by
    simp only[Rw.as]at j;split at j
    .rename_i y;exact y
    .cases j
   subst y;have:=dv j;simp only[AS.fg,U.fg,Lv.P6,C.size,if_true,<-this,Rw.fg];exact⟨rfl,BZ.refl _⟩
  .cases h
 .cases h;exact⟨rfl,BZ.refl _⟩
 .rename_i s J xs;split at h
  .rename_i G;split at h
   .rename_i I j;cases h;have y:J=c:=by
     simp only[Rw.as]at j;split at j
     .rename_i y;exact y
     .cases j
    subst y;have:=dv j;simp only[AS.fg,Lv.P6,JU G,and_self,if_true,<-this,Rw.fg];exact⟨trivial,BZ.refl _⟩
   .cases h
  .cases h
 .rename_i q sub;simp only[AS.fg,Lv.P6,Jv];split at h
  .rename_i x j;rw[j];split at h
   .rename_i w H;split at h
    .rename_i I E;have L:eOf c.size x.fg=true:=by
      cases x<;>simp[content]at H<;>subst H<;>simp only[U.fg,eOf];simp only[Rw.sub,Rw.as]at E;split at E
      .rename_i y;subst y;simp
      .cases E
     have B:=dv E;rw[AUg]at B;simp only[Ap,AS.fg,VW H,L,if_true,B];cases fl with
     |true=>
      simp only[if_true]at h ⊢;split at h
      .rename_i G;cases h;rw[AW (JU G _)];exact⟨rfl,BZ.refl _⟩
      .cases h
     |false=>
      simp only[BI,if_false]at h ⊢;cases h;rw[Vx];exact⟨rfl,BZ.out _ _⟩
    .cases h
   .cases h
  .cases h
 .cases h
theorem AO5{e:Option (Nat×Nat)}{x:Option ρ}{r:ρ}(h:gdo e x=some r):(∀a b,e=some (a,b)->a=b)/\x=some r:=by
 cases e with
 |none=>exact⟨by intros;contradiction,h⟩
 |some p=>
  obtain⟨a,b⟩:=p;obtain⟨j,q⟩:=Qb h
  grind
theorem zL{S':St}{b:U}{n:Nat}{e:Option (Nat×Nat)}(h:SP c S l=some (S',b,n,e))(Q:∀a b,e=some (a,b)->a=b):Lv.SP c.size (S.fg R) (AS.fg R l)=some (S'.fg R,b.fg,n)/\BZ S S':=by
 unfold SP at h;split at h
 .cases h;exact⟨rfl,BZ.refl _⟩
 .rename_i q sub;simp only[AS.fg,Lv.SP,Jv];split at h
  .rename_i x X;rw[X];split at h
   .rename_i w H;split at h
    .rename_i ys y;cases h;have E:eOf c.size x.fg=true:=by
      cases x<;>simp[content]at H<;>subst H<;>simp only[U.fg,eOf];simp only[Rw.as]at y;split at y
      .rename_i B;subst B;simp
      .cases y
     have I:=dv y;have G:toEnd sub (ys.map (enc c)).length=true:=by
      cases sub with
      |none=>rfl|some p=>
       obtain⟨lo,m⟩:=p;have:=Q _ _ rfl;simp[toEnd,this]
     simp only[Ap,AS.fg,VW H,I];rw[AW ⟨E,G⟩,Vx,Yp];refine⟨?_,BZ.out _ _⟩;rw[yi,<-aV,Ac]
    .cases h
   .cases h
  .cases h
 .rename_i q i j Y xs;split at h
  .rename_i B;subst B;split at h
   .rename_i S1 J;cases h;obtain⟨L,O⟩:=AKJ (R:=R) J;simp only[AS.fg,Lv.SP,if_true,L,U.fg,Ac];exact⟨trivial,O⟩
   .cases h
  .cases h
 .cases h
theorem AHE{b u:U}(h:AVC c b ys=some u):u.fg=AKt c.size b.fg (ys.map (enc c)):=by
 unfold AVC at h;split at h
 .grind[U.fg,AKt]
 .rename_i j;cases h;cases b<;>simp only[U.fg,AKt];exact(j _ _ rfl).elim
end
end Y
theorem Ot{α β:Type}(f:α->β):∀(cs ls:List α) (o:Nat),D6 (ls.map f) o (cs.map f)=(D6 ls o cs).map f
 | [],ls,o=>by cases ls<;>rfl
 |c::cs,ls,o=>by
  simp only[AK,D6];rw[<-Hq,Ot f cs]
theorem mu{α:Type}(t:α):∀(cs ls:List α) (o b:Nat),o<=b->b<o+cs.length->D6 (ls.set b t) o cs=D6 ls o cs
 | [],ls,o,b,q,j=>by simp at j;omega|c::cs,ls,o,b,q,j=>by
  simp only[D6];by_cases h:b=o
  .subst h;rw[List.set_set]
  .rw[List.set_comm _ _ h];exact mu t cs _ _ _ (by omega) (by simp at j;omega)
namespace Y
section
variable{R:List GF}{ρ:Type}
theorem rT(r:CJ)(i:Nat):∀(j:Nat) (us:List U),(J9 r i j us).map (AS.fg R)=Lv.J9 r i j (us.map U.fg)|_,[]=>rfl|j,u::us=>by simp only[J9,AK,Lv.J9,rU,rT r i (j+1) us]
theorem tG{c:C}{xs:List c.D}{i:Int}{x:c.D}(h:at? xs i=some x):(xs.map (enc c))[i.toNat]?=some (enc c x):=AXd (enc c) h
theorem PS{S:St}{n:Nat}{l:AS}{K:List AS->Option ρ}{r:ρ}(h:S.load n l K=some r):∃ls,(S.fg R).load n (AS.fg R l)=some (ls.map (AS.fg R))/\K ls=some r:=by
 unfold St.load at h;split at h
 .grind[AS.fg,Lv.St.load,PI,List.length_map,AHC,List.map_take,List.map_drop]
 .rename_i q i j;simp only[AS.fg,Lv.St.load,Jv];split at h
  .rename_i c xs G;rw[G];obtain⟨x,B,h⟩:=WS h;split at h
   .rename_i y;refine⟨_,?_,h⟩;have E:=tG B;simp only[Ap,AS.fg,U.fg,E,FV,Ac,y,if_true,rT,DB,Cl]
   .cases h
  .cases h
 .rename_i s cs;split at h
  .rename_i y;refine⟨_,?_,h⟩;simp only[AS.fg,Lv.St.load,Ac,y,if_true,AD];rw[<-DB,DN,DN];congr 1;funext u;exact(rU _ _).symm
  .cases h
 .cases h
theorem UE:∀ls:List AS,Lv.IQ (ls.map (AS.fg R))=IQ ls
 | []=>rfl|l::ls=>by
  have j:=UE ls;cases l with
  |t x=>cases x<;>first|rfl|exact j
  |und=>rfl|_=>exact j
theorem mI(b o n:Nat)(l:AS):Lv.IZ b o n (AS.fg R l)=IZ b o n l:=by
 grind[Lv.IZ,IZ,LH,RJ,Nat.ble,Nat.le_of_ble_eq_true,decide_eq_false_iff_not,Nat.ble_eq_true_of_le,Nat.blt]
def AEF:List T->List (Nat×Nat)->List T|row,[]=>row|row,(_,b)::hs=>AEF (row.set b .top) hs
theorem AEH:∀(j:List (Nat×Nat)) (row:List T),(AEF row j).length=row.length| [],row=>rfl|(a,b)::j,row=>by simp only[AEF,AEH j,List.length_set]
theorem Zn(i:Nat):∀(j:List (Nat×Nat)) (X:List (List T)) (k:Nat),(∀p∈j,p.1=i)->(NR X j)[k]?=if k=i then (X[i]?).map (λrow=>AEF row j) else X[k]?
 | [],X,k,h=>by
  grind[NR,AEF]
 |(a,b)::j,X,k,h=>by
  have q:a=i:=h (a,b) (by simp);subst q;simp only[NR];rw[Zn a j _ k (λp y=>h p (by simp[y]))];simp only[Ye,if_true];split
  .cases X[a]? <;> rfl
  .rfl
theorem bw(j:Nat)(ts:List T):∀(q:List (Nat×Nat)) (row:List T),(∀p∈q,j<=p.2/\p.2<j+ts.length)->D6 (AEF row q) j ts=D6 row j ts
 | [],row,h=>rfl|(a,b)::q,row,h=>by
  simp only[AEF];rw[bw j ts q _ (λp y=>h p (by simp[y]))];have:=h (a,b) (by simp);exact mu _ _ _ _ _ this.1 this.2
theorem lE{i j n:Nat}:∀{q:List (Nat×Nat)},Pr i j n q->(∀p∈q,p.1=i)/\(∀p∈q,j<=p.2/\p.2<j+n)
 | [],_=>⟨by simp,by simp⟩|(a,b)::q,h=>by
  obtain⟨B,E,y⟩:=h;obtain⟨G,H⟩:=lE y
  grind
theorem AUk{n:Nat}{ls:List AS}{S S':St}{ls':List AS}(h:Yq n S ls=some (S',ls')):Lv.Yq n (S.fg R) (ls.map (AS.fg R))=some (S'.fg R,ls'.map (AS.fg R))/\BZ S S':=by
 grind[Yq,Lv.Yq,Nat.blt_eq,Q4,BZ.refl]
theorem ANQ{S:St}{n:Nat}{p:AS}{cs:List AS}{K:St->Option ρ}{r:ρ}(h:S.SF n p cs K=some r) :
 ∃S',(S.fg R).SF n (AS.fg R p) (cs.map (AS.fg R))=some (S'.fg R)/\BZ S S'/\K S'=some r:=by
 unfold St.SF at h;split at h
 .rename_i id o;split at h
  .rename_i S1 E X;obtain⟨Y,J⟩:=AUk (R:=R) X;split at h
   .cases h
   .rename_i ht;dsimp only at h;split at h
    .rename_i ls hl;split at h
     .rename_i y;refine⟨_,?_,(J.trans (BZ.kill _ _)).trans (BZ.O1 _ _ _),h⟩;simp only[AS.fg,Lv.St.SF,Y,UE,ht,BI,if_false,Ac];rw[K7 (mI id o E.length),PI,hl];simp only[Ap,Ac,y,if_true];rw[Ui,Mn (mI id o E.length),Ot]
     .cases h
    .cases h
  .cases h
 .rename_i q i j;split at h
  .rename_i S1 us X;obtain⟨Y,J⟩:=MT (R:=R) X;simp only[AS.fg,Lv.St.SF,Y,Jv];split at h
   .rename_i c xs hx;rw[hx];obtain⟨x,L,h⟩:=WS h;split at h
    .rename_i y;split at h
     .rename_i x' B;refine⟨_,?_,(J.trans (BZ.Bg _ _ _)).trans (BZ.kill _ _),h⟩;have Z:=tG L;simp only[Ap,AS.fg,U.fg,Z,FV,Ac,y,if_true,AD];rw[<-K7 (Rv q),GP];congr 2;simp only[AS.fg,U.fg];rw[Hq,I8 B,Ot]
     .cases h
    .cases h
   .rename_i c xs I hx;rw[hx];obtain⟨x,L,h⟩:=WS h;split at h
    .rename_i y;split at h
     .rename_i x' B;obtain⟨hh,h⟩:=@Qb _ _ (dV i.toNat j us.length I) _ _ h;obtain⟨hr,G⟩:=lE hh;refine⟨_,?_,(J.trans (BZ.Bg _ _ _)).trans (BZ.kill _ _),h⟩;have Z:=tG L;have O:=Zn i.toNat I (xs.map (enc c)) i.toNat hr;rw[AW rfl,Z]at O;simp only[Ap]at O;simp only[Ap,AS.fg,O,AEH,PG];have hl2:j+(us.map U.fg).length<=c.size:=by rw[Ac,<-Y4 c x];exact y
      rw[AW hl2,<-K7 (Rv q),GP];congr 3;simp only[AS.fg,U.fg];have h7:D6 (AEF (enc c x) I) j (us.map U.fg)=enc c x':=by
       rw[bw _ _ _ _ (by rw[Ac];exact G),I8 B,FV,Ot]
      rw[h7];congr 1;congr 1;apply Fw;intro k;have hlt:i.toNat<xs.length:=(QB L).2.2.1;have H:i.toNat<(NR (xs.map (enc c)) I).length:=(AP.1 O).1;rw[EI,Ay,EI];by_cases Q:i.toNat=k
      .subst Q;simp only[if_true,hlt,H,Ap]
      .rw[AT Q,AT Q,Zn i.toNat I _ k hr,AT (λh=>Q h.symm),Ay]
     .cases h
    .cases h
   .cases h
  .cases h
 .cases h
def erP(R:List GF)(p:Nat×Nat×YO):Nat×Nat×Opd:=(p.1,p.2.1,p.2.2.er R)
theorem oZ{S:St}:∀{ps:List (Nat×Nat×YO)} {ls ls':List AS},M0 S ls ps=some ls'->Lv.M0 (S.fg R) (ls.map (AS.fg R)) (ps.map (erP R))=some (ls'.map (AS.fg R))
 | [],ls,ls',h=>by cases h;rfl
 |(o,n,x)::ps,ls,ls',h=>by
  simp only[M0]at h;split at h
  .rename_i e q;split at h
   .rename_i j;have:=oZ (ps:=ps) h;simp only[AK,erP,Lv.M0,Lg q,En.fg,Ac,UE];rw[AW j,Ot];exact this
   .cases h
  .cases h
def erQ(R:List GF)(p:Nat×YO):Nat×Opd:=(p.1,p.2.er R)
theorem ANx{c:C}{n:Nat}:∀{ps:List (Nat×YO)} {S S':St} {xs j:List c.D},bsK c n S xs ps=some (S',j) ->
 Lv.bsK c.size n (S.fg R) (xs.map (enc c)) (ps.map (erQ R))=some (S'.fg R,j.map (enc c))/\BZ S S'
 | [],S,S',xs,j,h=>by cases h;exact⟨rfl,BZ.refl _⟩
 |(i,x)::ps,S,S',xs,j,h=>by
  simp only[bsK]at h;split at h
  .rename_i e J;split at h
   .rename_i I;split at h
    .rename_i S1 us q;obtain⟨B,E⟩:=MT (R:=R) q;split at h
     .rename_i y L;obtain⟨G,H⟩:=ANx (ps:=ps) h;simp only[AK,erQ,Lv.bsK,Lg J,En.fg,Ac];rw[AW I,B];dsimp only;rw[<-I8 L,<-Hq];exact⟨G,E.trans H⟩
     .cases h
    .cases h
   .cases h
  .cases h
theorem ANy{c:C}{n:Nat}{z:List T}:∀{ps:List (Nat×YO)} {S S':St} {ys:List c.D} (pre:List (List T)),bsL c n S ps=some (S',ys)->ACw pre.length n ps=true->pre.length<=n ->
 Lv.bsK c.size n (S.fg R) (pre++List.replicate (n-pre.length) z) (ps.map (erQ R))=some (S'.fg R,pre++ys.map (enc c))/\BZ S S'
 | [],S,S',ys,pre,h,j,Q=>by
  cases h;simp only[ACw,beq_iff_eq]at j;simp only[BX,Lv.bsK,j,Eg,List.replicate_zero];exact⟨trivial,BZ.refl _⟩
 |(i,x)::ps,S,S',ys,pre,h,j,Q=>by
  simp only[ACw,AF,beq_iff_eq]at j;obtain⟨rfl,j⟩:=j;simp only[bsL]at h;split at h
  .rename_i e O;split at h
   .rename_i L;split at h
    .rename_i S1 us B;obtain⟨E,G⟩:=MT (R:=R) B;split at h
     .rename_i y S2 Z Y J;cases h;have q:(pre++[enc c y]).length=pre.length+1:=by simp
      obtain⟨H,I⟩:=ANy (z:=z) (ps:=ps) (pre++[enc c y]) J (by rw[q];exact j) (by rw[q];omega);simp only[AK,erQ,Lv.bsK,Lg O,En.fg,Ac];rw[AW L,E];dsimp only;rw[<-I8 Y];have X:(pre++List.replicate (n-pre.length) z).set pre.length (enc c y)=(pre++[enc c y])++List.replicate (n-(pre++[enc c y]).length) z:=by
       rw[List.set_append_right _ _ (Ab _),Eg,q];have:n-pre.length=(n-(pre.length+1))+1:=by omega
       rw[this,JO];simp
      rw[X];refine⟨?_,G.trans I⟩;simpa[erQ] using H
     .cases h
    .cases h
   .cases h
  .cases h
theorem Oj{S:St}{len:Nat}{lo hi:Option YO}{K:Nat->Nat->Option ρ}{r:ρ}(h:range S len lo hi K=some r) :
 ∃a b,(S.fg R).range len (lo.map (YO.er R)) (hi.map (YO.er R))=some (a,b)/\K a b=some r/\∀{α:Type} (xs:List α),xs.length=len->part lo hi xs a b=(xs.drop a).take (b-a):=by
 unfold range at h
 grind[part,Lv.St.range,Lv.St.ASa,Qb,Tm,List.take_of_length_le]
theorem Xr:∀(q:List (Nat×Nat)) (X:List (List T)),(NR X q).length=X.length| [],_=>rfl|(i,j)::q,X=>by rw[NR,Xr q];simp[Jc]
theorem Ur{S:St}{c:C}{l:AS}(h:S.wide c l=true)(y:(∃s j xs,l=.vw s j xs)\/(∃q sub,l=.al q sub)\/l=.t .nil):(S.fg R).wide c.size (AS.fg R l)=true:=by
 rcases y with ⟨s,j,xs,rfl⟩|⟨q,sub,rfl⟩|rfl
 .simp only[St.wide,decide_eq_true_eq]at h;subst h;simp[AS.fg,Lv.St.wide]
 .simp only[St.wide]at h;simp only[AS.fg,Lv.St.wide,Jv];split at h
  .rename_i x B;rw[B];simp only[Ap,AS.fg];cases x<;>simp only[U.fg,eOf];simp only[decide_eq_true_eq]at h;subst h;simp
  .grind[AS.fg,eOf]
  .cases h
 .rfl
theorem ALl{off:Nat}{p q:AS}(h:NF off p=some q):Lv.NF off (AS.fg R p)=some (AS.fg R q):=by
 cases p<;>simp only[NF]at h<;>first
  |cases h;done
  |(cases h;simp only[AS.fg,Lv.NF,Cl])
theorem ASG(p:AS):Lv.St.SV (AS.fg R p)=SV p:=by cases p<;>rfl
theorem AXn{l:AS}{c:Cap}(h:l.AXl=some c):c.fg=AS.fg R l/\(AS.fg R l).plain=true:=by
 unfold AS.AXl at h;split at h<;>first|cases h;done|(cases h;exact⟨rfl,rfl⟩)
theorem oU:∀{es:List En} {cs:List Cap},s9 es=some cs->((es.map (En.fg R)).all λe=>Lv.ACx e.sh&&e.cs.length==1&&e.cs.all Lv.AS.plain)=true/\(es.map (En.fg R)).flatMap Lv.Ent.cs=cs.map Cap.fg
 | [],cs,h=>by cases h;exact⟨rfl,rfl⟩
 |e::es,cs,h=>by
  unfold s9 at h;split at h
  .rename_i j;cases j
  .rename_i l y j;cases j;split at h
   .rename_i c q B E;cases h;obtain⟨G,H⟩:=oU E;obtain⟨I,J⟩:=AXn (R:=R) B;constructor
    .rw[AK,List.all_cons,G];simp[En.fg,Lv.ACx,J]
    .simp only[AK,List.flatMap_cons,H,En.fg,BX,List.singleton_append,I]
   .cases h
  .cases h
end
end Y
namespace Y
section
variable{R:List GF}{ρ:Type}
def zsC(c:C):List T:=match AER c with|some z=>enc c z|none=>[]
theorem AHA{c:C}{z:c.D}(h:AER c=some z):zsC c=enc c z:=by unfold zsC;rw[h]
def YOp.er:YOp R->XOp|.mv d x=>.mv d (x.er R)|.as d x=>.as d (x.er R)|.pick d c a b=>.pick d (c.er R) (a.er R) (b.er R)|.alloc d zs=>.alloc d (zs.map U.fg)|.box d x=>.box d (x.er R)|.build d zs ps=>.build d (zs.map U.fg) (ps.map (erP R))|.CA d n c ps=>.CA d n (zsC c) (ps.map (erQ R))|.ld d n x=>.ld d n (x.er R)|.st n x v=>.st n (x.er R) (v.er R)|.chk d x=>.chk d (x.er R)|.bin d c op x y=>.bin d c op (x.er R) (y.er R)|.un d op x=>.un d op (x.er R)|.cvI d k x=>.cvI d k (x.er R)|.NW d x=>.NW d (x.er R)|.Pj d x=>.Pj d (x.er R)|.Ng d n caps=>.Ng d (xr R n) (caps.map (YO.er R))|.Sb d c n=>.Sb d (zsC c) (n.er R) (n.er R)|.sub d c x lo hi=>.sub d c.size (x.er R) (lo.map (YO.er R)) (hi.map (YO.er R))|.WB d x lo hi=>.WB d (x.er R) (lo.map (YO.er R)) (hi.map (YO.er R))|.fa d off x=>.fa d off (x.er R)|.fld d off n x=>.fld d off n (x.er R)|.ia d c x i=>.ia d c.size (x.er R) (i.er R)|.ix d x i=>.ix d (x.er R) (i.er R)|.ext d x i=>.ext d (x.er R) i|.call d g _ _ args=>.call d g.x (args.map (YO.er R))|.ED d x ms args=>.ED d (x.er R) ms (args.map (YO.er R))|.len d x=>.len d (x.er R)|.lens d x=>.lens d (x.er R)|.app d c fl x y=>.app d c.size fl (x.er R) (y.er R)|.Sg d c x n=>.Sg d (zsC c) (x.er R) (n.er R)|.cpy d c x y=>.cpy d c.size (x.er R) (y.er R)|.mm d m x y=>.mm d m (x.er R) (y.er R)|.mmk d=>.mmk d|.Uv d x k=>.Uv d (x.er R) (k.er R)|.Tl x k v=>.Tl (x.er R) (k.er R) (v.er R)|.Uw d x=>.Uw d (x.er R)|.bad d=>.bad d|.drop ds=>.drop ds|.Qn ns=>.Qn (ns.map λp=>(p.1,p.2.size))
def Plain(o:YOp R)(S:St)(K:St->Option ρ)(r:ρ):Prop:=∃S',Lv.ev o.er (S.fg R)=some (S'.fg R)/\BZ S S'/\K S'=some r
theorem Ci{o:YOp R}{S S1:St}{d:Nat}{sh:Sh}{cs:List AS}{K:St->Option ρ}{r:ρ}(h:Ho S1 d sh cs K=some r)(E:BZ S S1)(B:Lv.ev o.er (S.fg R)=(S1.fg R).ES d ⟨sh,cs.map (AS.fg R)⟩):Plain o S K r:=by
 obtain⟨S',j,q,y⟩:=dg (R:=R) h;exact⟨S',B.trans j,E.trans q,y⟩
variable{S:St}{K:St->Option ρ}{r:ρ}
theorem AKG{d:Nat}{x:YO}(h:ev (.mv d x:YOp R) S K=some r):Plain (.mv d x:YOp R) S K r:=by
 simp only[ev]at h;split at h
 .rename_i e j;exact Ci h (BZ.refl _) (by simp only[YOp.er,Lv.ev,Lg j,En.fg])
 .cases h
theorem ASl{d:Nat}{x:YO}(h:ev (.as d x:YOp R) S K=some r):Plain (.as d x:YOp R) S K r:=by
 simp only[ev]at h;split at h
 .rename_i e B;split at h
  .rename_i S1 cs j;obtain⟨q,y⟩:=Q4 (R:=R) j;exact Ci h y (by simp only[YOp.er,Lv.ev,Lg B,En.fg,q])
  .cases h
 .cases h
theorem xq{d:Nat}{c a b:YO}(h:ev (.pick d c a b:YOp R) S K=some r):Plain (.pick d c a b:YOp R) S K r:=by
 simp only[ev]at h;split at h
 .rename_i t ea eb q y B;rcases AHI h with ⟨rfl,j⟩|⟨rfl,j⟩
  .exact Ci j (BZ.refl _) (by simp only[YOp.er,Lv.ev,PW q,Lg y,Lg B,U.fg,En.fg,if_true])
  .exact Ci j (BZ.refl _) (by simp only[YOp.er,Lv.ev,PW q,Lg y,Lg B,U.fg,En.fg,BI,if_false])
 .cases h
theorem mG{d:Nat}{j:List U}(h:ev (.alloc d j:YOp R) S K=some r):Plain (.alloc d j:YOp R) S K r:=by
 simp only[ev]at h;obtain⟨S',q,y,B⟩:=ln (R:=R) h;refine⟨S',?_,y,B⟩;rw[<-q];simp only[YOp.er,Lv.ev,Lv.Qm,DN];rfl
theorem AGT{d:Nat}{x:YO}(h:ev (.box d x:YOp R) S K=some r):Plain (.box d x:YOp R) S K r:=by
 simp only[ev]at h;split at h
 .rename_i e G;split at h
  .rename_i S1 cs j;obtain⟨q,y⟩:=AVS (R:=R) j;split at h
   .cases h
   .rename_i I;obtain⟨S',H,B,E⟩:=ln (R:=R) h;refine⟨S',?_,y.trans B,E⟩;simp only[YOp.er,Lv.ev,Lg G,En.fg,q,UE,Ac]
    grind[Mn,Lv.FJ,Lv.F9,YH,YG,Lv.Qm]
  .cases h
 .cases h
theorem mH{d:Nat}{j:List U}{ps:List (Nat×Nat×YO)}(h:ev (.build d j ps:YOp R) S K=some r):Plain (.build d j ps:YOp R) S K r:=by
 simp only[ev]at h;split at h
 .rename_i ls q;have:=oZ (R:=R) q;rw[DN]at this;refine Ci h (BZ.refl _) ?_;simp only[YOp.er,Lv.ev,DN];rw[show (Lv.AS.t∘U.fg)=(AS.fg R∘AS.t) from rfl,this]
 .cases h
theorem aB{d n:Nat}{c:C}{ps:List (Nat×YO)}(h:ev (.CA d n c ps:YOp R) S K=some r):Plain (.CA d n c ps:YOp R) S K r:=by
 simp only[ev]at h;split at h
 .rename_i z E;split at h
  .rename_i y;split at h
   .rename_i S1 xs j;have q:Lv.bsK c.size n (S.fg R) (rowsOf n (enc c z)) (ps.map (erQ R))=some (S1.fg R,xs.map (enc c))/\BZ S S1:=by
     split at j
     .rename_i B;have:=ANy (R:=R) (z:=enc c z) [] j B (Nat.zero_le _);simpa[rowsOf] using this
     .have:=ANx (R:=R) j;rw[Fe]at this;exact this
    refine Ci h q.2 ?_;simp only[YOp.er,Lv.ev,AHA E,PG];rw[AW y,q.1];rfl
   .cases h
  .cases h
 .cases h
theorem ASp{d:Nat}{n:Option Nat}{x:YO}(h:ev (.ld d n x:YOp R) S K=some r):Plain (.ld d n x:YOp R) S K r:=by
 simp only[ev]at h;split at h
 .rename_i p q;obtain⟨ls,j,h⟩:=PS (R:=R) h
  grind[Ci,BZ.refl,YOp.er,Lv.ev,E5]
 .cases h
theorem ASq{n:Nat}{x v:YO}(h:ev (.st n x v:YOp R) S K=some r):Plain (.st n x v:YOp R) S K r:=by
 simp only[ev]at h;split at h
 .rename_i p e G E;split at h
  .rename_i B;obtain⟨S',j,q,y⟩:=ANQ (R:=R) h;refine⟨S',?_,q,y⟩;simp only[YOp.er,Lv.ev,E5 G,Lg E,En.fg,Ac];rw[AW B,j]
  .cases h
 .cases h
theorem AGU{d:Nat}{x:YO}(h:ev (.chk d x:YOp R) S K=some r):Plain (.chk d x:YOp R) S K r:=by
 simp only[ev]at h
 grind[Ci,BZ.refl,YOp.er,Lv.ev,E5,ASG]
theorem AGS{d:Nat}{c:Cls}{op:BinOp}{x y:YO}(h:ev (.bin d c op x y:YOp R) S K=some r):Plain (.bin d c op x y:YOp R) S K r:=by
 simp only[ev]at h;split at h
 .rename_i ex ey j q;obtain⟨u,B,h⟩:=AXg (R:=R) h;exact Ci h (BZ.refl _) (by simp only[YOp.er,Lv.ev,Lg j,Lg q,B];rfl)
 .cases h
theorem ASr{d:Nat}{op:UnOp}{x:YO}(h:ev (.un d op x:YOp R) S K=some r):Plain (.un d op x:YOp R) S K r:=by
 simp only[ev]at h;split at h
 .rename_i a j;obtain⟨u,q,h⟩:=AYm h;exact Ci h (BZ.refl _) (by simp only[YOp.er,Lv.ev,PW j,q];rfl)
 .cases h
theorem AGW{d:Nat}{k:IntKind}{x:YO}(h:ev (.cvI d k x:YOp R) S K=some r):Plain (.cvI d k x:YOp R) S K r:=by
 simp only[ev]at h
 grind[Ci,BZ.refl,YOp.er,Lv.ev,Tm,AS.fg,ASZ]
theorem xi{d:Nat}{x:YO}(h:ev (.NW d x:YOp R) S K=some r):Plain (.NW d x:YOp R) S K r:=by
 simp only[ev]at h;split at h
 .rename_i s j;exact Ci h (BZ.refl _) (by simp only[YOp.er,Lv.ev,PW j,U.fg];rfl)
 .cases h
theorem xh{d:Nat}{x:YO}(h:ev (.Pj d x:YOp R) S K=some r):Plain (.Pj d x:YOp R) S K r:=by
 simp only[ev]at h;split at h
 .rename_i l y;split at h
  .rename_i w G;split at h
   .rename_i j E;have q:=QX (R:=R) G;rw[dv E]at q;refine Ci h (BZ.refl _) ?_;have B:bytesOf (j.map (enc .u))=some j:=zO j;simp only[YOp.er,Lv.ev,E5 y,q,B];rfl
   .cases h
  .cases h
 .cases h
theorem xl{d n:Nat}{caps:List YO}(h:ev (.Ng d n caps:YOp R) S K=some r):Plain (.Ng d n caps:YOp R) S K r:=by
 simp only[ev]at h;split at h
 .rename_i es B;split at h
  .rename_i cs y;obtain⟨j,q⟩:=oU (R:=R) y;refine Ci h (BZ.refl _) ?_;simp only[YOp.er,Lv.ev,aI B];rw[AW j,q];rfl
  .cases h
 .cases h
theorem xm{d:Nat}{c:C}{n:YO}(h:ev (.Sb d c n:YOp R) S K=some r):Plain (.Sb d c n:YOp R) S K r:=by
 simp only[ev]at h;split at h
 .grind[Qb,Ci,BZ.refl,YOp.er,Lv.ev,Tm,AHA,PG,rowsOf,AS.fg,U.fg,List.map_replicate]
 .cases h
theorem xt{d:Nat}{x:YO}{lo hi:Option YO}(h:ev (.WB d x lo hi:YOp R) S K=some r):Plain (.WB d x lo hi:YOp R) S K r:=by
 simp only[ev]at h;split at h
 .rename_i s y;obtain⟨a,b,j,h,q⟩:=Oj (R:=R) h;rw[q s rfl]at h;exact Ci h (BZ.refl _) (by simp only[YOp.er,Lv.ev,PW y,U.fg,j];rfl)
 .cases h
theorem AOs{q:CJ}{sub:Option (Nat×Nat)}{w:Rw}{c:C}{xs:List c.D}(h:S.elems (.al q sub)=some w)(j:w.as c=some xs):(S.fg R).elems (.al q sub)=some (xs.map (enc c)):=by
 have:=QX (R:=R) h;rw[dv j]at this;exact this
theorem AGb{d:Nat}{c:C}{x:YO}{lo hi:Option YO}(h:ev (.sub d c x lo hi:YOp R) S K=some r):Plain (.sub d c x lo hi:YOp R) S K r:=by
 simp only[ev]at h;split at h
 .rename_i l G;split at h
  .rename_i H;split at h
   .rename_i q sub;have j:=Ur (R:=R) H (.inr (.inl ⟨_,_,rfl⟩));split at h
    .rename_i w I;split at h
     .rename_i xs J;obtain⟨a,b,B,h,_⟩:=Oj (R:=R) h;have E:=AOs (R:=R) I J;have y:=E5 (R:=R) G;simp only[AS.fg]at j y;refine Ci h (BZ.refl _) ?_;simp only[YOp.er,Lv.ev,y,j,if_true,E,Ac,B];cases sub with|none=>rfl|some p=>rfl
     .cases h
    .cases h
   .rename_i s L xs;have j:=Ur (R:=R) H (.inl ⟨_,_,_,rfl⟩);obtain⟨a,b,B,h,E⟩:=Oj (R:=R) h;rw[E xs rfl]at h;have y:=E5 (R:=R) G;simp only[AS.fg]at j y;refine Ci h (BZ.refl _) ?_;simp only[YOp.er,Lv.ev,y,j,if_true,Lv.St.elems,Ac,B,AK,BX,AS.fg,DB,Cl]
   .obtain⟨a,b,B,h,_⟩:=Oj (R:=R) h;have j:=Ur (R:=R) H (.inr (.inr rfl));have y:=E5 (R:=R) G;simp only[AS.fg,U.fg]at j y;refine Ci h (BZ.refl _) ?_;simp only[YOp.er,Lv.ev,y,j,if_true,Lv.St.elems,AM,B,AK,BX,AS.fg,U.fg]
   .cases h
  .cases h
 .cases h
theorem ASm{d off:Nat}{x:YO}(h:ev (.fa d off x:YOp R) S K=some r):Plain (.fa d off x:YOp R) S K r:=by
 simp only[ev]at h;split at h
 .rename_i p j;split at h
  .rename_i q y;exact Ci h (BZ.refl _) (by simp only[YOp.er,Lv.ev,E5 j,ALl y];rfl)
  .cases h
 .cases h
theorem AGY{d off:Nat}{n:Option Nat}{x:YO}(h:ev (.fld d off n x:YOp R) S K=some r):Plain (.fld d off n x:YOp R) S K r:=by
 simp only[ev]at h;split at h
 .rename_i cs q;split at h
  .rename_i j;refine Ci h (BZ.refl _) ?_;simp only[YOp.er,Lv.ev,Lg q,En.fg,Ac,j,if_true,DB,Cl]
  .cases h
 .cases h
theorem ASn{d:Nat}{c:C}{x i:YO}(h:ev (.ia d c x i:YOp R) S K=some r):Plain (.ia d c x i:YOp R) S K r:=by
 simp only[ev]at h;split at h
 .rename_i l n I J;split at h
  .rename_i O;split at h
   .rename_i q sub;have j:=Ur (R:=R) O (.inr (.inl ⟨_,_,rfl⟩));split at h
    .rename_i H xs X;obtain⟨y,G,h⟩:=WS h;have L:=QX (R:=R) X;have E:=E5 (R:=R) I;simp only[AS.fg]at j E L;have B:=QB G;refine Ci h (BZ.refl _) ?_;simp only[YOp.er,Lv.ev,E,Tm J,L,Rw.fg,Ac];rw[AW ⟨j,B.1,B.2.1⟩];cases sub with
     |none=>rfl|some p=>
      obtain⟨lo,m⟩:=p;simp only[AK,BX,AS.fg];congr 5;have:=B.1;omega
    .split at h
     .split at h
      .rename_i H xs Z Y;obtain⟨y,G,h⟩:=WS h;have E:=E5 (R:=R) I;simp only[AS.fg]at j E;have B:=QB G;refine Ci h (BZ.refl _) ?_;simp only[YOp.er,Lv.ev,E,Tm J,Lv.St.elems,Jv,Y,Ap,AS.fg,Lv.content,Lv.KB,Xr,Ac];rw[AW ⟨j,B.1,B.2.1⟩];rfl
      .cases h
     .cases h
   .rename_i s H xs;have j:=Ur (R:=R) O (.inl ⟨_,_,_,rfl⟩);obtain⟨y,G,h⟩:=WS h;have E:=E5 (R:=R) I;simp only[AS.fg]at j E;have B:=QB G;refine Ci h (BZ.refl _) ?_;simp only[YOp.er,Lv.ev,E,Tm J,Lv.St.elems,Ac];rw[AW ⟨j,B.1,B.2.1⟩];have Q:(xs.map (enc H)).getD n.toNat []=(cells H y).map U.fg:=by
     rw[BA,tG G,DE,FV]
    rw[Q];rfl
   .cases h
  .cases h
 .cases h
theorem ASo{d:Nat}{x i:YO}(h:ev (.ix d x i:YOp R) S K=some r):Plain (.ix d x i:YOp R) S K r:=by
 simp only[ev]at h;split at h
 .rename_i s n B q;obtain⟨y,E,h⟩:=WS h;have j:=QB E;refine Ci h (BZ.refl _) ?_;simp only[YOp.er,Lv.ev,PW B,U.fg,Tm q];rw[AW ⟨j.1,j.2.1⟩];have:s.getD n.toNat 0=y:=by rw[BA,j.2.2.2.1,DE]
  rw[this];rfl
 .cases h
theorem AGX{d:Nat}{x:YO}{i:Nat}(h:ev (.ext d x i:YOp R) S K=some r):Plain (.ext d x i:YOp R) S K r:=by
 simp only[ev]at h;split at h
 .rename_i s;split at h
  .rename_i ns cs v E;split at h
   .rename_i n G;split at h
    .rename_i B;split at h
     .rename_i S1 ls q;obtain⟨j,y⟩:=Q4 (R:=R) q;refine Ci h y ?_;simp only[YOp.er,YO.er,Lv.ev,Xj,E,Ap,Ent.fg,G,Ac,B,if_true];rw[DB,Cl,s8]at j;rw[j]
     .cases h
    .cases h
   .cases h
  .cases h
 .cases h
theorem xj{d:Nat}{x:YO}(h:ev (.lens d x:YOp R) S K=some r):Plain (.lens d x:YOp R) S K r:=by
 simp only[ev]at h;split at h
 .rename_i s j;exact Ci h (BZ.refl _) (by simp only[YOp.er,Lv.ev,PW j,U.fg];rfl)
 .cases h
theorem AGZ{d:Nat}{x:YO}(h:ev (.len d x:YOp R) S K=some r):Plain (.len d x:YOp R) S K r:=by
 simp only[ev]at h;split at h
 .rename_i l y;split at h
  .rename_i c xs q;have j:=QX (R:=R) q;exact Ci h (BZ.refl _) (by simp only[YOp.er,Lv.ev,E5 y,j,Rw.fg,Ac];rfl)
  .rename_i q;have j:=QX (R:=R) q;exact Ci h (BZ.refl _) (by simp only[YOp.er,Lv.ev,E5 y,j,Rw.fg,AM];rfl)
  .cases h
 .cases h
theorem xe{d:Nat}{c:C}{fl:Bool}{x y:YO}(h:ev (.app d c fl x y:YOp R) S K=some r):Plain (.app d c fl x y:YOp R) S K r:=by
 simp only[ev]at h;split at h
 .rename_i lx ly O Q;split at h
  .rename_i S1 ys j;obtain⟨q,B⟩:=AWh (R:=R) j;split at h
   .rename_i S2 b n e E;obtain⟨J,h⟩:=AO5 h;obtain⟨G,H⟩:=zL (R:=R) E J;obtain⟨I,h⟩:=Qb h;split at h
    .rename_i u L;refine Ci h (B.trans H) ?_;simp only[YOp.er,Lv.ev,E5 O,E5 Q,q,G,Ac];rw[AW I,<-AHE L];rfl
    .cases h
   .cases h
  .cases h
 .cases h
theorem xg{d:Nat}{c:C}{x n:YO}(h:ev (.Sg d c x n:YOp R) S K=some r):Plain (.Sg d c x n:YOp R) S K r:=by
 simp only[ev]at h;split at h
 .rename_i lx k z J H L;obtain⟨j,h⟩:=Qb h;split at h
  .rename_i S2 b m e q;obtain⟨G,h⟩:=AO5 h;obtain⟨y,B⟩:=zL (R:=R) q G;obtain⟨E,h⟩:=Qb h;split at h
   .rename_i u I;refine Ci h B ?_;simp only[YOp.er,Lv.ev,E5 J,Tm H,AHA L,PG];rw[AW j]
    try dsimp only
    rw[y]
    try dsimp only
    rw[AW E];have:=AHE I;rw[Fe]at this;simp only[rowsOf,<-this,AK,BX,AS.fg]
   .cases h
  .cases h
 .cases h
theorem AGV{d:Nat}{c:C}{x y:YO}(h:ev (.cpy d c x y:YOp R) S K=some r):Plain (.cpy d c x y:YOp R) S K r:=by
 simp only[ev]at h;split at h
 .rename_i q ly hx hy;split at h
  .rename_i O B w X J;split at h
   .rename_i ys xs hys j;split at h
    .rename_i E;obtain⟨hne,h⟩:=Qb h;have Y:O=c:=by
      simp only[Rw.as]at j;split at j
      .rename_i E;exact E
      .cases j
     subst Y;have Z:B=xs:=by simp only[Rw.as]at j;simpa using j
     subst Z;have Q:=QX (R:=R) J;rw[dv hys]at Q;have h3:=E5 (R:=R) hx;simp only[AS.fg]at h3;have H:(S.fg R).wide O.size (AS.fg R ly)=true:=by
      refine Ur E.1 ?_;unfold St.elems at J;split at J
      .exact .inr (.inl ⟨_,_,rfl⟩)
      .exact .inl ⟨_,_,_,rfl⟩
      .exact .inr (.inr rfl)
      .cases J
     have G:(B.map (enc O)).isEmpty=false:=by cases B<;>simp_all
     have I:=E5 (R:=R) hy;generalize AS.fg R ly=L at I Q H;refine Ci h ((BZ.Bg _ _ _).trans (BZ.kill _ _)) ?_;simp only[YOp.er,Lv.ev,h3,I,Jv,X,Ap,AS.fg,U.fg,Q];rw[AW ⟨trivial,H,JU E.2 _,JU E.2 _,G⟩,<-K7 (Rv q),GP];simp only[AS.fg,U.fg,Cs,DB,Cl,Ac,AK,BX]
    .cases h
   .cases h
  .cases h
 .cases h
theorem AKF{d:Nat}{m:Bool}{x y:YO}(h:ev (.mm d m x y:YOp R) S K=some r):Plain (.mm d m x y:YOp R) S K r:=by
 simp only[ev]at h;split at h
 .rename_i k a E b j q;split at h
  .rename_i B;exact Ci h (BZ.refl _) (by simp only[YOp.er,Lv.ev,PW j,PW q,U.fg];rw[AW B];rfl)
  .cases h
 .cases h
theorem lh{x:YO}{q:CJ}{ks:List (Int×Int)}(h:S.Qj x=some (q,ks)):(S.fg R).Qj (x.er R)=some (q,ks):=by
 unfold St.Qj at h;split at h
 .rename_i E j;split at h
  .rename_i y B;cases h;have:=E5 (R:=R) j
   grind[AS.fg,Lv.St.Qj,Jv,U.fg]
  .cases h
 .cases h
theorem AGa{d:Nat}(h:ev (.mmk d:YOp R) S K=some r):Plain (.mmk d:YOp R) S K r:=by
 simp only[ev]at h;exact Ci h (BZ.refl _) (by simp only[YOp.er,Lv.ev];rfl)
theorem xk{d:Nat}{x k:YO}(h:ev (.Uv d x k:YOp R) S K=some r):Plain (.Uv d x k:YOp R) S K r:=by
 simp only[ev]at h;split at h
 .rename_i q ks n j y;exact Ci h (BZ.refl _) (by simp only[YOp.er,Lv.ev,lh j,PW y,U.fg];rfl)
 .cases h
theorem xn{d:Nat}{x:YO}(h:ev (.Uw d x:YOp R) S K=some r):Plain (.Uw d x:YOp R) S K r:=by
 simp only[ev]at h;split at h
 .rename_i q ks j;exact Ci h (BZ.refl _) (by simp only[YOp.er,Lv.ev,lh j];rfl)
 .cases h
theorem xp{x k v:YO}(h:ev (.Tl x k v:YOp R) S K=some r):Plain (.Tl x k v:YOp R) S K r:=by
 simp only[ev]at h;split at h
 .rename_i q ks n m j y B;refine⟨_,?_,(BZ.Bg _ _ _).trans (BZ.kill _ _),h⟩;simp only[YOp.er,Lv.ev,lh j,PW y,PW B,U.fg];rw[<-K7 (Rv q),GP];rfl
 .cases h
theorem AJi{o:YOp R}(h:ev o S K=some r):∃S',BZ S S'/\K S'=some r/\∀N:Lv.St->Prop,N (S'.fg R)->opK KC o.er (S.fg R) N:=by
 have pl:Plain o S K r->∃S',BZ S S'/\K S'=some r/\∀N:Lv.St->Prop,N (S'.fg R)->opK KC o.er (S.fg R) N:=λ⟨S',j,q,y⟩=>⟨S',q,y,λN hN=>.inl ⟨_,j,hN⟩⟩
 cases o with
 |mv=>exact pl (AKG h)|as=>exact pl (ASl h)|pick=>exact pl (xq h)|alloc=>exact pl (mG h)|box=>exact pl (AGT h)|build=>exact pl (mH h)|CA=>exact pl (aB h)|ld=>exact pl (ASp h)|st=>exact pl (ASq h)|chk=>exact pl (AGU h)|bin=>exact pl (AGS h)|un=>exact pl (ASr h)|cvI=>exact pl (AGW h)|NW=>exact pl (xi h)|Pj=>exact pl (xh h)|Ng=>exact pl (xl h)|Sb=>exact pl (xm h)|sub=>exact pl (AGb h)|WB=>exact pl (xt h)|fa=>exact pl (ASm h)|fld=>exact pl (AGY h)|ia=>exact pl (ASn h)|ix=>exact pl (ASo h)|ext=>exact pl (AGX h)|len=>exact pl (AGZ h)|lens=>exact pl (xj h)|app=>exact pl (xe h)|Sg=>exact pl (xg h)|cpy=>exact pl (AGV h)|mm=>exact pl (AKF h)|mmk=>exact pl (AGa h)|Uv=>exact pl (xk h)|Tl=>exact pl (xp h)|Uw=>exact pl (xn h)|bad=>simp[ev]at h|drop Q=>exact pl ⟨_,by simp only[YOp.er,Lv.ev,ACU],BZ.Im _ _,h⟩|Qn ns=>exact pl ⟨_,by simp only[YOp.er,Lv.ev,xM],BZ.Rs _ _,h⟩|call d g fs I args=>
  simp only[ev]at h;split at h
  .rename_i es G;obtain⟨S1,vs,cs,outs,S',j,q,y,B,E⟩:=zV (Al.of I) h;refine⟨S',B,E,λN hN=>.inr ⟨d,g.x,es.map (En.fg R),S1,vs,_,cs,outs,_,?_,j,q,y,hN⟩⟩;simp only[YOp.er,Lv.Fy,aI G]
  .cases h
 |ED d x ms args=>
  simp only[ev]at h;split at h
  .rename_i n caps es H G;split at h
   .rename_i g J;split at h
    .rename_i L;obtain⟨S1,vs,cs,outs,S',j,q,y,B,E⟩:=zV (Al.nil _) h;refine⟨S',B,E,λN hN=>.inr ⟨d,g.x,_,S1,vs,_,cs,outs,_,?_,j,q,y,hN⟩⟩;have O:xr R n=g.x:=by unfold xr;rw[J]
     simp only[YOp.er,Lv.Fy,E5 H,aI G,AS.fg,O];rw[AW (by rw[g.ms,L])];simp only[Cs,DN,AD,Prod.mk.injEq,true_and,List.append_cancel_left_eq];apply List.map_congr_left;intro c _;simp only[Function.comp,En.fg,AK,BX,ah]
    .cases h
   .cases h
  .cases h
end
end Y
namespace Y
section
variable{R:List GF}{ρ:Type}
variable{b:Bool}{v:Nat}{X:Option ρ}{S:St}{K:St->Option ρ}
def B2.er:B2 R->SZ|.nil=>.nil|.op i g sf o rest=>.op i g sf o.er rest.er|.dr ds rest=>.dr ds rest.er|.nl ns rest=>.nl (ns.map λp=>(p.1,p.2.size)) rest.er|.both _ a b=>.both a.er b.er
def HD.er:HD R->OB|.skip=>.skip|.region ops _=>.region (ops.map λp=>(p.1,p.2.er)) []|.Va r _=>.Va r.er []|.seq a b=>.seq a.er b.er|.join _ a b=>.seq a.er b.er|.cond c _ _ t e=>.cond c [] [] t.er e.er|.block id b=>.block id b.er|.loop _ b=>.loop b.er|.exit id=>.exit id|.ret=>.ret|.scope b=>.scope b.er|.or a b=>.or a.er b.er|.dead=>.dead|.ASz _ b=>.loop b.er|.Tv a b _ d p c e=>.Tv (a.map λp=>(p.1,p.2.er)) (b.map λp=>(p.1,p.2.er)) [] d p c e
theorem AXt(o:YOp R):o.er.kP=o.kP:=by cases o<;>rfl
theorem mz{o:YOp R}{r:ρ}(h:Ms o S K=some r):∃S',Lv.Ms o.er (S.fg R)=some (S'.fg R)/\BZ S S'/\K S'=some r:=by
 unfold Ms at h;unfold Lv.Ms;rw[AXt];split at h
 .rename_i d B;obtain⟨S',j,q,y⟩:=dg (R:=R) h;rw[B];exact⟨S',j,q,y⟩
 grind[BZ.refl]
theorem AUD{s:Nat}{e x:Ent}:∀{l:List (Nat×Ent)},get l s=some x->e.fg R=x.fg R->fgE R (reE s e l)=fgE R l
 | [],h,_=>rfl|(k,y)::l,h,q=>by
  simp only[get]at h;simp only[reE];cases j:Nat.beq k s with
  |true=>rw[j]at h;cases h;simp only[fgE,AK,q]
  |false=>
   rw[j]at h;have:=AUD (l:=l) h q
   grind[fgE]
theorem AJp{s:Nat}{e:Ent}:∀{l:List (Nat×Ent)} {k:Nat} {y:Ent},get (reE s e l) k=some y->y=e\/get l k=some y
 | [],k,y,h=>.inr h|(j,x)::l,k,y,h=>by
  simp only[reE]at h;cases B:Nat.beq j s with
  |true=>
   grind[get,Nat.beq]
  |false=>
   rw[B]at h;simp only[get]at h ⊢;cases q:Nat.beq j k with
   |true=>rw[q]at h;exact .inr h|false=>rw[q]at h;exact AJp h
theorem AYB{s:Nat}(h:get S.tm s=some ⟨.one,[.t (.bool b)],v⟩):(S.lit s b).fg R=S.fg R/\BZ S (S.lit s b):=by
 refine⟨?_,by simp[St.lit],λk e q y=>?_,λ_ _ h _=>h,rfl⟩
 .simp only[St.fg,St.lit];have:=AUD (R:=R) (e:=⟨.one,[.t (.bool b)],S.nv⟩) h rfl;rw[this]
 .rcases AJp q with rfl|j
  .grind
  .exact j
def Gd(R:List GF)(g:Option (Nat×Bool))(o:YOp R)(S:Lv.St)(N:Lv.St->Prop):Prop:=
 ∃b,Lv.wanted S g=some b/\((b=true/\opK KC o.er S N)\/(b=false/\∃S',Lv.Ms o.er S=some S'/\N S'))
theorem sg{s:Nat}{w:Bool}(h:get S.tm s=some ⟨.one,[.t (.bool b)],v⟩):Lv.wanted (S.fg R) (some (s,w))=some (b==w):=by
 simp only[Lv.wanted,Xj,h];rfl
theorem AEL{s:Nat}{w:Bool}(h:get S.tm s=some ⟨.one,[.und],v⟩):Lv.wanted (S.fg R) (some (s,w))=some false:=by
 simp only[Lv.wanted,Xj,h];rfl
theorem UG{S:St}{s:Nat}{w b:Bool}{v:Nat}{o:YOp R}{f:Option ρ}{K:St->Option ρ}{r:ρ}{P:Lv.St->(Lv.St->Prop)->Prop}(y:get S.tm s=some ⟨.one,[.t (.bool b)],v⟩)(x:Bool)(G:x=(b==w))
 (h:mK x o (S.lit s b) f K=some r) (H:f=some r->∃S',BZ (S.lit s b) S'/\K S'=some r/\∀N:Lv.St->Prop,N (S'.fg R)->P ((S.lit s b).fg R) N) :
 ∃S',BZ S S'/\K S'=some r/\∀N:Lv.St->Prop,N (S'.fg R)->∃b,Lv.wanted (S.fg R) (some (s,w))=some b/\((b=true/\P (S.fg R) N)\/(b=false/\∃S',Lv.Ms o.er (S.fg R)=some S'/\N S')):=by
 obtain⟨I,E⟩:=AYB (R:=R) y;cases x with
 |true=>
  obtain⟨S',j,q,B⟩:=H h;refine⟨S',E.trans j,q,λN hN=>⟨_,sg y,.inl ⟨G.symm,?_⟩⟩⟩
  grind
 |false=>
  obtain⟨S',j,q,B⟩:=mz (R:=R) h;refine⟨S',E.trans q,B,λN hN=>⟨_,sg y,.inr ⟨G.symm,_,?_,hN⟩⟩⟩
  rwa[I]at j
theorem AXy{g:Option (Nat×Bool)}{o:YOp R}{r:ρ}(h:evg g o S K=some r) :
 ∃S',BZ S S'/\K S'=some r/\∀N:Lv.St->Prop,N (S'.fg R)->Gd R g o (S.fg R) N:=by
 unfold evg at h;split at h
 .obtain⟨S',y,B,E⟩:=AJi h;exact⟨S',y,B,λN hN=>⟨true,rfl,.inl ⟨rfl,E N hN⟩⟩⟩
 .rename_i s w;split at h
  .rename_i b v j;rcases AHI h with ⟨rfl,q⟩|⟨rfl,q⟩
   .exact UG (P:=opK KC o.er) j w (by cases w<;>rfl) q λG=>AJi G
   .exact UG (P:=opK KC o.er) j (!w) (by cases w<;>rfl) q λG=>AJi G
  .rename_i v j;obtain⟨S',y,B,E⟩:=mz (R:=R) h;exact⟨S',B,E,λN hN=>⟨false,AEL j,.inr ⟨rfl,_,y,hN⟩⟩⟩
  .cases h
theorem uS:∀{ops:List (Option (Nat×Bool)×YOp R)} {S:St} {K:St->Option ρ} {r:ρ},evs ops S K=some r ->
 ∃S',BZ S S'/\K S'=some r/\∀N:Lv.St->Prop,N (S'.fg R)->aC KC (ops.map λp=>(p.1,p.2.er)) (S.fg R) N
 | [],S,K,r,h=>⟨S,BZ.refl _,h,λN hN=>hN⟩|(g,o)::ops,S,K,r,h=>by
  have j:evg g o S (λS'=>evs ops S' K)=some r:=by
   grind[evs,E8]
  obtain⟨S1,q,y,B⟩:=AXy j;obtain⟨S2,E,G,H⟩:=uS y;exact⟨S2,q.trans E,G,λN hN=>B _ (H N hN)⟩
theorem AZp(o:YOp R):o.er.wr=o.wr.map (YO.er R):=by cases o<;>rfl
theorem Y0(l:AS):∀(ks:List PK) (es:List En),Lv.KY (AS.fg R l) (ks.map PK.md) (es.map (En.fg R))=KY l ks es
 | [],es=>by cases es<;>rfl
 |k::ks,[]=>rfl|k::ks,e::es=>by
  simp only[AK,Lv.KY,KY,sk,En.fg,J0,Function.comp_def,ANF,Y0 l ks es]
theorem AVv{l:AS}(h:S.OT l=true):(S.fg R).OT (AS.fg R l)=true:=by
 unfold St.OT at h;split at h
 .simp only[AS.fg,Lv.St.OT,PI,Option.isSome_map];exact h
 .rfl
 .rename_i s cs;cases cs<;>simp_all[AS.fg,Lv.St.OT]
 .grind[AS.fg,Lv.St.OT,Jv,AV4]
 .rfl
 .rfl
 .cases h
theorem zW{o:YOp R}{S:Lv.St}(j:∀d g fs y args,o≠.call d g fs y args)(q:∀d x ms args,o≠.ED d x ms args):Lv.Fy o.er S=none:=by
 cases o<;>first|rfl|(exact(j _ _ _ _ _ rfl).elim)|(exact(q _ _ _ _ rfl).elim)
theorem AUN{o:YOp R}{S:St}{l:AS}(h:VI o S l=true):Lv.VI o.er (S.fg R) (AS.fg R l)=true:=by
 unfold VI at h;simp only[AF]at h;obtain⟨X,q⟩:=h;unfold Lv.VI;rw[AVv X,Bool.true_and];have E:(AS.fg R l).B7=l.B7:=LH l;have gen:(∀d g fs Q args,o≠.call d g fs Q args)->(∀d x ms args,o≠.ED d x ms args) ->
  (match o.wr with|some y=>(match S.one y with|some lt=>l.B7.isNone||!(match l.B7 with|some r=>isR lt.B7 r|none=>lt.B7.isNone)|none=>false)|none=>true)=true ->
  (match Lv.Fy o.er (S.fg R) with
  |some (_,f,es)=>Lv.KY (AS.fg R l) (E2 f) es|none=>match o.er.wr with
   |some y=>(match (S.fg R).one y with|some lt=>(AS.fg R l).B7.isNone||decide ((AS.fg R l).B7≠lt.B7)|none=>true)
   |none=>true)=true:=by
  intro n1 n2 h;rw[zW n1 n2,AZp];cases hy:o.wr with
  |none=>rfl|some y=>
   rw[hy]at h;dsimp only at h;cases B:S.one y with
   |none=>rw[B]at h;cases h
   |some lt=>
    rw[B]at h;dsimp only at h ⊢;simp only[Ap,E5 B];rw[E,LH,decide_not,<-AUJ];exact h
 cases o with
 |st n x v=>
  dsimp only at q;have H:Lv.names (AS.fg R l)=names l:=ll l;generalize AS.fg R l=L at H E ⊢;cases B:S.one x with
  |none=>rw[B]at q;cases q
  |some lp=>
   rw[B]at q;have G:=E5 (R:=R) B;simp only[YOp.er,G];cases lp with
   |bp id o=>
    dsimp only at q;show (!(Lv.names L).contains id)=true;rw[H,List.contains_eq_mem,<-Uc];exact q
   |ep r0 i j=>
    dsimp only at q;show decide (L.B7≠some r0)=true;rw[E];rw[Zr]at q;simpa using q
   |_=>cases q
 |call d g fs Q args=>
  dsimp only at q;cases J:S.rds args with
  |none=>rw[J]at q;cases q
  |some es=>
   rw[J]at q;have G:=Y0 (R:=R) l g.ps es;generalize AS.fg R l=L at G ⊢;simp only[YOp.er,Lv.Fy,aI J,g.ms];rw[G];exact q
 |ED d x ms args=>
  dsimp only at q;split at q
  .rename_i n caps es H Y;split at q
   .rename_i g Z;split at q
    .rename_i h7;have hx:xr R n=g.x:=by unfold xr;rw[Z]
     have I:=Y0 (R:=R) l g.ps (es++caps.map λl=>⟨.one,[l.leaf]⟩);rw[Cs,DN]at I;rw[show (En.fg R∘λl=>(⟨.one,[l.leaf]⟩:En))=((λl=>(⟨Sh.one,[l]⟩:Lv.Ent))∘Cap.fg) from by funext c;simp only[Function.comp,En.fg,AK,BX,ah],<-DN]at I;have O:=E5 (R:=R) H;simp only[AS.fg,hx]at O;generalize AS.fg R l=L at I ⊢;simp only[YOp.er,Lv.Fy,O,aI Y];rw[AW (by rw[g.ms,h7])];dsimp only;rw[g.ms,I];exact q
    .cases q
   .cases q
  .cases q
 |_=>exact gen (by intros;simp) (by intros;simp) q
theorem ADp{o:YOp R}{S:St}:∀{sf:List Nat},KO o S sf=true->Lv.KO o.er (S.fg R) sf=true
 | [],h=>rfl|s::sf,h=>by
  simp only[KO,AF]at h;obtain⟨j,q⟩:=h;simp only[Lv.KO,AF];refine⟨?_,ADp q⟩;split at j
  .rename_i l y;have:=E5 (R:=R) y
   grind[YO.er,AUN]
  .cases j
theorem uR:∀{a b:List (Option Nat)},ALG a b=true->a=b
 | [],[],_=>rfl|none::r,none::r',h=>by simp only[ALG]at h;rw[uR h]|some a::r,some b::r',h=>by simp only[ALG,AF]at h;rw[beq_true h.1,uR h.2]| [],_::_,h=>by cases h
 |none::_,[],h=>by cases h
 |some _::_,[],h=>by cases h
 |none::_,some _::_,h=>by cases h
 |some _::_,none::_,h=>by cases h
theorem AVq{a b:Sh}(h:AXw a b=true):a=b:=by
 cases a<;>cases b<;>first|rfl|(cases h;done)|(simp only[AXw]at h;first|rw[uR h]|rw[beq_true h])
theorem ACX:∀{a b:Option (Nat×Nat)},AJf a b=true->a=b
 |none,none,_=>rfl|some (a,b),some (j,q),h=>by simp only[AJf,AF]at h;rw[beq_true h.1,beq_true h.2]|none,some _,h=>by cases h
 |some _,none,h=>by cases h
theorem aN:∀{a b:CJ},CJ.is a b=true->a=b
 |.tmp s c,.tmp q j,h=>by
  grind[CJ.is,beq_true]
 |.cell s c,.cell q j,h=>by
  simp only[CJ.is]at h
  grind[beq_true]
 |.tmp _ _,.cell _ _,h=>by cases h
 |.cell _ _,.tmp _ _,h=>by cases h
theorem ACW{a b:Src}(h:AJe a b=true):a=b:=by
 cases a<;>cases b<;>simp only[AJe,AF]at h<;>first|(cases h;done)|rw[aN h.1,ACX h.2]|rw[beq_true h]
theorem AJd:∀{a b:List (Nat×Nat)},AVp a b=true->a=b
 | [],[],_=>rfl|(a,b)::r,(j,q)::r',h=>by simp only[AVp,AF]at h;rw[beq_true h.1.1,beq_true h.1.2,AJd h.2]| [],_::_,h=>by cases h
 |_::_,[],h=>by cases h
theorem TZ{γ:Type}{x:Option γ}{r:γ}(h:ifB b x=some r):b=true/\x=some r:=by
 grind
theorem AEX{x y:U}{r:ρ}(h:agU x y X=some r):x=y/\X=some r:=by
 cases x<;>cases y<;>simp only[agU]at h<;>first|(cases h;done)|exact⟨rfl,h⟩|skip
 .grind[TP]
 .grind[TP]
 .obtain⟨rfl,j⟩:=TP h;exact⟨rfl,j⟩
 .obtain⟨rfl,j⟩:=TP h;exact⟨rfl,j⟩
 .grind[TP]
 grind[TP]
theorem AHB:∀{x y:List U} {X:Option ρ} {r:ρ},AXV x y X=some r->x=y/\X=some r
 | [],[],X,r,h=>⟨rfl,h⟩|a::x,b::y,X,r,h=>by
  obtain⟨rfl,j⟩:=AEX h;obtain⟨rfl,q⟩:=AHB j;exact⟨rfl,q⟩
 | [],_::_,_,_,h=>by cases h
 |_::_,[],_,_,h=>by cases h
theorem ANh{c j:C}{xs:List c.D}{ys:List j.D}{r:ρ}(h:(if h:j=c then eqv xs (h▸ys) X else none)=some r):(⟨c,xs⟩:(c:C)×List c.D)=⟨j,ys⟩/\X=some r:=by
 grind[TP]
theorem AU7{x y:AS}{r:ρ}(h:AXT x y X=some r):x=y/\X=some r:=by
 unfold AXT at h;split at h
 .obtain⟨rfl,j⟩:=AEX h;exact⟨rfl,j⟩
 .exact⟨rfl,h⟩
 .obtain⟨rfl,j⟩:=AEX h;exact⟨rfl,j⟩
 .obtain⟨j,E⟩:=TZ h;obtain⟨B,q⟩:=ANh E;cases B;rw[AJd j];exact⟨rfl,q⟩
 .obtain⟨j,h⟩:=TZ h
  grind[aN,ACX]
 .obtain⟨j,h⟩:=TZ h
  grind[TP,aN,beq_true]
 .obtain⟨j,E⟩:=TZ h;obtain⟨B,q⟩:=ANh E;cases B;rw[ACW j];exact⟨rfl,q⟩
 .obtain⟨j,h⟩:=TZ h;obtain⟨rfl,q⟩:=AHB h;rw[ACW j];exact⟨rfl,q⟩
 .obtain⟨j,h⟩:=TZ h
  grind[beq_true]
 .cases h
theorem s7:∀{x y:List AS} {X:Option ρ} {r:ρ},AU8 x y X=some r->x=y/\X=some r
 | [],[],X,r,h=>⟨rfl,h⟩|a::x,b::y,X,r,h=>by
  obtain⟨rfl,j⟩:=AU7 h;obtain⟨rfl,q⟩:=s7 j;exact⟨rfl,q⟩
 | [],_::_,_,_,h=>by cases h
 |_::_,[],_,_,h=>by cases h
theorem cX{a b:Nat}(h:Nat.blt a b=true):a<b:=by simp[Nat.blt]at h;omega
theorem AEW{v:Nat}{P:Nat->Ent->Prop}(hP:∀k e q,P k e->P k q->e=q):∀{x y:List (Nat×Ent)} {X:Option ρ} {r:ρ},(∀k e,(k,e)∈x->e.ver<v->P k e)->(∀k e,(k,e)∈y->e.ver<v->P k e)->agE v x y X=some r->fgE R x=fgE R y/\X=some r
 | [],[],X,r,_,_,h=>⟨rfl,h⟩|(k,e)::x,(Q,q)::y,X,r,H,I,h=>by
  simp only[agE]at h;split at h
  .rename_i O;have:=beq_true O;subst this;split at h
   .rename_i G;simp only[AF]at G;have:=hP k e q (H k e (BJ ..) (cX G.1)) (I k q (BJ ..) (cX G.2));subst this;obtain⟨B,E⟩:=AEW hP (λk e j=>H k e (Ae _ j)) (λk e j=>I k e (Ae _ j)) h;exact⟨by unfold fgE at B ⊢;rw[AK,AK,B],E⟩
   .obtain⟨J,h⟩:=TZ h;obtain⟨L,h⟩:=s7 h;obtain⟨B,E⟩:=AEW hP (λk e j=>H k e (Ae _ j)) (λk e j=>I k e (Ae _ j)) h;exact⟨by unfold fgE at B ⊢;rw[AK,AK,B];simp only[Ent.fg,AVq J,L],E⟩
  .cases h
 | [],_::_,_,_,_,_,h=>by cases h
 |_::_,[],_,_,_,_,h=>by cases h
theorem AEV{v:Nat}{P:Nat->Bx->Prop}(hP:∀k e q,P k e->P k q->e=q):∀{x y:List (Nat×Bx)} {X:Option ρ} {r:ρ},(∀k e,(k,e)∈x->e.ver<v->P k e)->(∀k e,(k,e)∈y->e.ver<v->P k e)->agB v x y X=some r->fgB R x=fgB R y/\X=some r
 | [],[],X,r,_,_,h=>⟨rfl,h⟩|(k,e)::x,(O,q)::y,X,r,H,I,h=>by
  simp only[agB]at h;split at h
  .rename_i L;have:=beq_true L;subst this;split at h
   .rename_i G;simp only[AF]at G;have:=hP k e q (H k e (BJ ..) (cX G.1)) (I k q (BJ ..) (cX G.2));subst this;obtain⟨B,E⟩:=AEV hP (λk e j=>H k e (Ae _ j)) (λk e j=>I k e (Ae _ j)) h;exact⟨by unfold fgB at B ⊢;rw[AK,AK,B],E⟩
   .obtain⟨J,h⟩:=s7 h;obtain⟨B,E⟩:=AEV hP (λk e j=>H k e (Ae _ j)) (λk e j=>I k e (Ae _ j)) h;exact⟨by unfold fgB at B ⊢;rw[AK,AK,B,J],E⟩
  .cases h
 | [],_::_,_,_,_,_,h=>by cases h
 |_::_,[],_,_,_,_,h=>by cases h
theorem ACz{α:Type}{k:Nat}{e:α}:∀{l:List (Nat×α)},(k,e)∈l->ba k l=true
 |(j,x)::l,h=>by
  simp only[ba];cases q:Nat.beq j k with
  |true=>rfl|false=>
   rcases Ad.1 h with h|h
   .cases h;rw[J1]at q;cases q
   .exact ACz h
theorem Qo{α:Type}{k:Nat}{e:α}:∀{l:List (Nat×α)},mB l=true->(k,e)∈l->get l k=some e
 |(j,x)::l,q,h=>by
  simp only[mB,AF,A8]at q;simp only[get];rcases Ad.1 h with h|h
  .cases h;rw[J1]
  .cases y:Nat.beq j k with
   |true=>rw[beq_true y,ACz h]at q;cases q.1
   |false=>exact Qo q.2 h
theorem AXU{A B:St}{r:ρ}(hA:BZ S A)(hB:BZ S B)(h:agS S.nv A B X=some r):A.fg R=B.fg R/\X=some r:=by
 obtain⟨E,h⟩:=TZ h;simp only[AF]at E;obtain⟨⟨⟨J,L⟩,O⟩,Q⟩:=E;obtain⟨H,h⟩:=AEW (R:=R) (P:=λk e=>get S.tm k=some e) (λk e G h y=>by rw[h]at y;exact Option.some.inj y) (λk e j q=>hA.tm k e (Qo J j) q) (λk e j q=>hB.tm k e (Qo L j) q) h;obtain⟨I,h⟩:=AEV (R:=R) (P:=λk e=>get S.bx k=some e) (λk e G h y=>by rw[h]at y;exact Option.some.inj y) (λk e j q=>hA.bx k e (Qo O j) q) (λk e j q=>hB.bx k e (Qo Q j) q) h;exact⟨by simp only[St.fg,H,I,hA.pin,hB.pin],h⟩
theorem ZP:∀{x:B2 R} {S:St} {K:St->Option ρ} {r:ρ},evr x S K=some r ->
 ∃S',BZ S S'/\K S'=some r/\∀N:Lv.St->Prop,N (S'.fg R)->runK KC x.er (S.fg R) N
 |.nil,S,K,r,h=>⟨S,BZ.refl _,h,λN hN=>hN⟩|.dr ds x,S,K,r,h=>by
  obtain⟨S',q,j,y⟩:=ZP (x:=x) h;refine⟨S',(BZ.Im _ _).trans q,j,λN hN=>?_⟩;have:=y N hN;rw[ACU]at this;exact this
 |.nl ns x,S,K,r,h=>by
  obtain⟨S',q,j,y⟩:=ZP (x:=x) h;refine⟨S',(BZ.Rs _ _).trans q,j,λN hN=>?_⟩;have:=y N hN;rw[xM]at this;exact this
 |.both n a b,S,K,r,h=>by
  have h:evr a S (λA=>evr b S λB=>agS S.nv A B (K A))=some r:=by
   cases n with
   |zero=>exact h|succ n=>simpa only[evr,AHD] using h
  obtain⟨A,I,J,a3⟩:=ZP (x:=a) (K:=λA=>evr b S λB=>agS S.nv A B (K A)) h;obtain⟨B,L,O,Q⟩:=ZP (x:=b) (K:=λB=>agS S.nv A B (K A)) J;obtain⟨e,j⟩:=AXU (R:=R) I L O;exact⟨A,I,j,λN hN=>⟨a3 N hN,Q N (e▸hN)⟩⟩
 |.op i g sf o x,S,K,r,h=>by
  have safe:∀{S:St},(if KO o S sf=true then ev o S λS'=>S'.GW λS'=>evr x S' K else none)=some r ->
   ∃S',BZ S S'/\evr x S' K=some r/\∀N:Lv.St->Prop,N (S'.fg R)->(Lv.KO o.er (S.fg R) sf=true/\opK KC o.er (S.fg R) N):=by
   intro S h;split at h
   .rename_i hs;obtain⟨S',q,j,y⟩:=AJi h;rw[E8]at j;exact⟨S',q,j,λN hN=>⟨ADp hs,y N hN⟩⟩
   .cases h
  have key:∃S',BZ S S'/\evr x S' K=some r/\∀N:Lv.St->Prop,N (S'.fg R)->∃b,Lv.wanted (S.fg R) g=some b/\((b=true/\Lv.KO o.er (S.fg R) sf=true/\opK KC o.er (S.fg R) N)\/(b=false/\∃S',Lv.Ms o.er (S.fg R)=some S'/\N S')):=by
   simp only[evr,AX1]at h;split at h
   .obtain⟨S',q,j,y⟩:=safe h;exact⟨S',q,j,λN hN=>⟨true,rfl,.inl ⟨rfl,y N hN⟩⟩⟩
   .rename_i s w;split at h
    .rename_i b v E;rcases AHI h with ⟨rfl,G⟩|⟨rfl,G⟩
     .refine UG (K:=λS'=>evr x S' K) (P:=λS N=>Lv.KO o.er S sf=true/\opK KC o.er S N) E w (by cases w<;>rfl) (f:=if KO o (S.lit s true) sf=true then ev o (S.lit s true) λS'=>S'.GW λS'=>evr x S' K else none) ?_ λH=>safe H
      simpa only[E8] using G
     .refine UG (K:=λS'=>evr x S' K) (P:=λS N=>Lv.KO o.er S sf=true/\opK KC o.er S N) E (!w) (by cases w<;>rfl) (f:=if KO o (S.lit s false) sf=true then ev o (S.lit s false) λS'=>S'.GW λS'=>evr x S' K else none) ?_ λH=>safe H
      simpa only[E8] using G
    .rename_i v E;simp only[E8]at h;obtain⟨S',q,j,y⟩:=mz (R:=R) h;exact⟨S',j,y,λN hN=>⟨false,AEL E,.inr ⟨rfl,_,q,hN⟩⟩⟩
    .cases h
  obtain⟨S1,q,j,y⟩:=key;obtain⟨S2,X,Y,Z⟩:=ZP (x:=x) j;exact⟨S2,q.trans X,Y,λN hN=>y _ (Z N hN)⟩
end
end Y
namespace Y
section
variable{R:List GF}{ρ:Type}
variable{c:Cut}{S S':St}
theorem ASU{s:Option Src}{l:AS}{x:U}(h:AST s l=some x):ASS s x=l:=by
 unfold AST at h;split at h
 .cases h
 .cases h
 .cases h
 .rename_i j q y;cases h;cases s<;>cases x<;>first|rfl|(exact(j _ _ rfl).elim)|(exact(q rfl).elim)|(exact(y _ rfl).elim)
 .split at h
  .cases h;rfl
  .cases h
 .split at h
  .cases h;rfl
  .cases h
 .split at h
  .cases h
  .split at h
   .rename_i B;subst B;cases h;rfl
   .cases h
 .cases h
theorem rW{s:Option Src}:∀{ls:List AS} {us:List U},xG s ls=some us->us.map (ASS s)=ls
 | [],us,h=>by cases h;rfl
 |l::ls,us,h=>by
  simp only[xG]at h;split at h
  .rename_i x xs j q;cases h;rw[AK,ASU j,rW q]
  .cases h
theorem AXO{a:AL}{ls:List AS}{x:a.D}(h:a.un ls=some x):a.leaf x=ls:=by
 cases a with
 |val c s=>
  simp only[AL.un]at h;split at h
  .rename_i us q;simp only[AL.leaf];rw[aA h,rW q]
  .cases h
 |num k=>
  simp only[AL.un]at h;split at h
  .split at h
   .rename_i j;subst j;cases h;rfl
   .cases h
  .cases h
 |al r=>
  simp only[AL.un]at h;split at h
  .split at h
   .rename_i j;subst j;rfl
   .cases h
  .cases h
theorem ym:∀{as:List AL} {ls:List AS} {x:TA as},AWn as ls=some x->Oc as x=ls
 | [],ls,x,h=>by
  cases ls with
  |nil=>rfl|cons l ls=>cases h
 | [a],ls,x,h=>AXO h|a::j::as,ls,x,h=>by
  simp only[AWn]at h;split at h
  .rename_i y z q B;cases h;show a.leaf y++Oc (j::as) z=ls;rw[AXO q,ym B,CY]
  .cases h
theorem L0{b:Bool}{k:Nat}:∀{c:Cut} {ls:List AS},Ox b k c=false->look b k (seg c ls)=none
 | [],ls,h=>rfl|(j,d,sh,as)::c,ls,h=>by
  simp only[Ox]at h;simp only[seg,look];split at h
  .cases h
  .exact L0 h
theorem ZT{S:St}{k:Nat}:∀{c:Cut} {ls:List AS},RY S c=some ls->Ox false k c=true->∃e,get S.tm k=some e/\look false k (seg c ls)=some (e.sh,e.cs)
 | [],ls,h,j=>by cases j
 |(false,d,sh,as)::c,ls,h,j=>by
  simp only[RY]at h;split at h
  .rename_i e ls' B y;split at h
   .rename_i q;cases h;simp only[Ox]at j;simp only[seg,look];split at j
    .rename_i E;have H:d=k:=by simpa[RJ] using E
     subst H;refine⟨e,B,?_⟩;rw[Ca q.2,Yg q.1]
    .rename_i E;rw[Cr q.2];exact ZT y j
   .cases h
  .cases h
 |(true,d,sh,as)::c,ls,h,j=>by
  simp only[RY]at h;split at h
  .rename_i e ls' B y;split at h
   .rename_i q;cases h;have G:((true:Bool)==false)=false:=rfl;simp only[Ox,G,Bt]at j;simp only[seg,look,G,Bt];rw[Cr q];exact ZT y j
   .cases h
  .cases h
theorem ZS{S:St}{k:Nat}:∀{c:Cut} {ls:List AS},RY S c=some ls->Ox true k c=true->∃e sh,get S.bx k=some e/\look true k (seg c ls)=some (sh,e.cs)
 | [],ls,h,j=>by cases j
 |(true,d,sh,as)::c,ls,h,j=>by
  simp only[RY]at h;split at h
  .rename_i e ls' B y;split at h
   .rename_i q;cases h;simp only[Ox]at j;simp only[seg,look];split at j
    .rename_i E;have H:d=k:=by simpa[RJ] using E
     subst H;refine⟨e,sh,B,?_⟩;rw[Ca q]
    .rename_i E;rw[Cr q];exact ZS y j
   .cases h
  .cases h
 |(false,d,sh,as)::c,ls,h,j=>by
  simp only[RY]at h;split at h
  .rename_i e ls' B y;split at h
   .rename_i q;cases h;have G:((false:Bool)==true)=false:=rfl;simp only[Ox,G,Bt]at j;simp only[seg,look,G,Bt];rw[Cr q.2];exact ZS y j
   .cases h
  .cases h
theorem AKT{q:List (Bool×Nat×Sh×List AS)}{a:List (Nat×Ent)}{v:Nat}:∀{l:List (Nat×Ent)},(∀k e,(k,e)∈l->look false k q=some (e.sh,e.cs)\/(look false k q=none/\get a k=some e))->fgE R (mb q a v l)=fgE R l
 | [],_=>rfl|(k,e)::l,h=>by
  have y:=AKT (v:=v) (l:=l) (λk e E=>h k e (Ae _ E));simp only[fgE,mb,AK]at y ⊢;rw[y];rcases h k e (by simp) with j|⟨j,B⟩
  .rw[j];rfl
  .rw[j,B]
theorem AKS{q:List (Bool×Nat×Sh×List AS)}{a:List (Nat×Bx)}{v:Nat}:∀{l:List (Nat×Bx)},(∀k e,(k,e)∈l->(∃sh,look true k q=some (sh,e.cs))\/(look true k q=none/\get a k=some e))->fgB R (ma q a v l)=fgB R l
 | [],_=>rfl|(k,e)::l,h=>by
  have y:=AKS (v:=v) (l:=l) (λk e E=>h k e (Ae _ E));simp only[fgB,ma,AK]at y ⊢;rw[y];rcases h k e (by simp) with ⟨sh,j⟩|⟨j,B⟩
  .rw[j]
  .rw[j,B]
theorem Zv{α:Type}{k:Nat}{e:α}:∀{l:List (Nat×α)},(k,e)∈l->ba k l=true
 |(j,x)::l,h=>by
  simp only[ba];cases q:Nat.beq j k with
  |true=>rfl|false=>
   rcases Ad.1 h with h|h
   .cases h;exact(beq_false q rfl).elim
   .exact Zv h
theorem sM{c:Cut}{a:List (Nat×Ent)}:∀{l:List (Nat×Ent)} {k:Nat} {e:Ent},AKX c a l=true->(k,e)∈l->get l k=some e/\(Ox false k c=true\/(Ox false k c=false/\∃y,get a k=some y/\e.ver=y.ver))
 |(j,x)::l,k,e,h,q=>by
  simp only[AKX,AF,A8]at h;obtain⟨⟨E,G⟩,B⟩:=h;rcases Ad.1 q with q|q
  .grind[Prod.mk.injEq,get,Nat.beq,RJ,Ox,beq_true]
  .obtain⟨H,I⟩:=sM B q
   grind[get,Nat.beq,beq_true,Zv]
theorem sL{c:Cut}{a:List (Nat×Bx)}:∀{l:List (Nat×Bx)} {k:Nat} {e:Bx},AKW c a l=true->(k,e)∈l->get l k=some e/\(Ox true k c=true\/(Ox true k c=false/\∃y,get a k=some y/\e.ver=y.ver))
 |(j,x)::l,k,e,h,q=>by
  simp only[AKW,AF,A8]at h;obtain⟨⟨E,G⟩,B⟩:=h;rcases Ad.1 q with q|q
  .grind[Prod.mk.injEq,get,Nat.beq,RJ,Ox,beq_true]
  .obtain⟨H,I⟩:=sL B q
   grind[get,Nat.beq,beq_true,Zv]
theorem ANu{a b:Nat}(h:Nat.blt a b=true):a<b:=Ij h
theorem AKj{v:Nat}:∀{l:List (Nat×Ent)} {k:Nat} {e:Ent},wfE v l=true->get l k=some e->e.ver<v
 |(j,x)::l,k,e,h,q=>by
  simp only[wfE,AF]at h;simp only[get]at q;split at q
  .cases q;exact ANu h.1
  .exact AKj h.2 q
theorem AKi{v:Nat}:∀{l:List (Nat×Bx)} {k:Nat} {e:Bx},wfB v l=true->get l k=some e->e.ver<v
 |(j,x)::l,k,e,h,q=>by
  simp only[wfB,AF]at h;simp only[get]at q;split at q
  .cases q;exact ANu h.1
  .exact AKi h.2 q
structure FL(c:Cut)(S S':St):Prop where
 tm:∀k e,Ox false k c=false->get S'.tm k=some e->e.ver<S.nv->get S.tm k=some e
 bx:∀k e,Ox true k c=false->get S'.bx k=some e->e.ver<S.nv->get S.bx k=some e
 pin:S'.pin=S.pin
theorem FL.of(h:BZ S S'):FL c S S':=⟨λk e _=>h.tm k e,λk e _=>h.bx k e,h.pin⟩
theorem uU{x:TA c.as}(h:c.fit S S'=some x)(H:FL c S S') :
 (c.st S S' x).fg R=S'.fg R /\
 (∀k e,(k,e)∈S'.tm->look false k (seg c (Oc c.as x))=some (e.sh,e.cs)\/(look false k (seg c (Oc c.as x))=none/\get S.tm k=some e)) /\
 (∀k e,(k,e)∈S'.bx->(∃sh,look true k (seg c (Oc c.as x))=some (sh,e.cs))\/(look true k (seg c (Oc c.as x))=none/\get S.bx k=some e)):=by
 unfold Cut.fit at h;split at h
 .rename_i Q;obtain⟨w1,Y,s1,X⟩:=Q;split at h
  .rename_i ls J;rw[ym h];have hE:∀k e,(k,e)∈S'.tm->look false k (seg c ls)=some (e.sh,e.cs)\/(look false k (seg c ls)=none/\get S.tm k=some e):=by
    intro k e I;obtain⟨q,j⟩:=sM s1 I;rcases j with j|⟨j,L,B,E⟩
    .obtain⟨O,y,G⟩:=ZT J j;rw[q]at y;cases y;exact .inl G
    .exact .inr ⟨L0 j,H.tm k e j q (by rw[E];exact AKj w1 B)⟩
   have hB:∀k e,(k,e)∈S'.bx->(∃sh,look true k (seg c ls)=some (sh,e.cs))\/(look true k (seg c ls)=none/\get S.bx k=some e):=by
    intro k e I;obtain⟨q,j⟩:=sL X I;rcases j with j|⟨j,L,B,E⟩
    .obtain⟨O,sh,y,G⟩:=ZS J j;rw[q]at y;cases y;exact .inl ⟨sh,G⟩
    .exact .inr ⟨L0 j,H.bx k e j q (by rw[E];exact AKi Y B)⟩
   refine⟨?_,hE,hB⟩;simp only[St.fg,Cut.st,ym h];rw[AKT hE,AKS hB,H.pin]
  .cases h
 .cases h
theorem aK{q:List (Bool×Nat×Sh×List AS)}{a:List (Nat×Ent)}{v:Nat}:∀{l l':List (Nat×Ent)},Mr l l'=true->(∀k e,(k,e)∈l'->look false k q=some (e.sh,e.cs)\/(look false k q=none/\get a k=some e))->mb q a v l=mb q a v l'
 | [],[],_,_=>rfl| [],_::_,h,_=>by cases h
 |_::_,[],h,_=>by cases h
 |(k,e)::l,(I,G)::l',h,B=>by
  simp only[Mr,AF]at h;obtain⟨j,y⟩:=h;have:=beq_true j;subst this;have H:=aK (v:=v) y (λk e E=>B k e (Ae _ E))
  grind[mb]
theorem aJ{q:List (Bool×Nat×Sh×List AS)}{a:List (Nat×Bx)}{v:Nat}:∀{l l':List (Nat×Bx)},Mr l l'=true->(∀k e,(k,e)∈l'->(∃sh,look true k q=some (sh,e.cs))\/(look true k q=none/\get a k=some e))->ma q a v l=ma q a v l'
 | [],[],_,_=>rfl| [],_::_,h,_=>by cases h
 |_::_,[],h,_=>by cases h
 |(k,e)::l,(I,G)::l',h,B=>by
  simp only[Mr,AF]at h;obtain⟨j,y⟩:=h;have:=beq_true j;subst this;have H:=aJ (v:=v) y (λk e E=>B k e (Ae _ E))
  grind[ma]
theorem kZ{q:List (Bool×Nat×Sh×List AS)}{a:List (Nat×Ent)}{v k:Nat}(G:look false k q=none):∀{l:List (Nat×Ent)} {y:Ent},get (mb q a v l) k=some y->∃e,get l k=some e/\y=(match get a k with|some B=>B|none=>e)
 |(j,x)::l,y,h=>by
  simp only[mb,get]at h ⊢;cases E:Nat.beq j k with
  |true=>
   grind[beq_true,Option.some.inj]
  |false=>rw[E]at h;exact kZ G h
theorem kY{q:List (Bool×Nat×Sh×List AS)}{a:List (Nat×Bx)}{v k:Nat}(G:look true k q=none):∀{l:List (Nat×Bx)} {y:Bx},get (ma q a v l) k=some y->∃e,get l k=some e/\y=(match get a k with|some B=>B|none=>e)
 |(j,x)::l,y,h=>by
  simp only[ma,get]at h ⊢;cases E:Nat.beq j k with
  |true=>
   grind[beq_true,Option.some.inj]
  |false=>rw[E]at h;exact kY G h
theorem FL.round{x:TA c.as}(h:BZ (c.st S S x) S'):FL c S S':=by
 refine⟨λk e G E j=>?_,λk e G E j=>?_,h.pin⟩
 .have q:=h.tm k e E (KE j);obtain⟨H,y,B⟩:=kZ (L0 G) q
  grind
 .have q:=h.bx k e E (KE j);obtain⟨H,y,B⟩:=kY (L0 G) q;rw[y]at B;subst B;exact y
theorem qv{y:TA c.as}(h:c.fit S S'=some y)(j:FL c S S')(q:Mr S.tm S'.tm=true)(B:Mr S.bx S'.bx=true):(c.st S S y).fg R=S'.fg R:=by
 obtain⟨E,G,H⟩:=uU (R:=R) h j
 grind[St.fg,Cut.st,aK,aJ]
theorem Zz{b:Bool}{k:Nat}:∀{c:Cut} {ls:List AS},Ox b k c=true->∃p,look b k (seg c ls)=some p
 |(j,d,sh,as)::c,ls,h=>by
  simp only[Ox]at h;simp only[seg,look];split at h
  .exact⟨_,rfl⟩
  .exact Zz h
theorem ADh{q:List (Bool×Nat×Sh×List AS)}{a:List (Nat×Ent)}{v k:Nat}{p:Sh×List AS}(E:look false k q=some p):∀{l:List (Nat×Ent)} {y:Ent},get (mb q a v l) k=some y->v<=y.ver
 |(j,z)::l,y,h=>by
  simp only[mb,get]at h;cases B:Nat.beq j k with
  |true=>
   grind[beq_true]
  |false=>rw[B]at h;exact ADh E h
theorem ADg{q:List (Bool×Nat×Sh×List AS)}{a:List (Nat×Bx)}{v k:Nat}{p:Sh×List AS}(E:look true k q=some p):∀{l:List (Nat×Bx)} {y:Bx},get (ma q a v l) k=some y->v<=y.ver
 |(j,z)::l,y,h=>by
  simp only[ma,get]at h;cases B:Nat.beq j k with
  |true=>
   grind[beq_true]
  |false=>rw[B]at h;exact ADg E h
theorem BZ.st{x:TA c.as}(I:BZ S S'):BZ S (c.st S S' x):=by
 refine⟨by simp[Cut.st],λk e B E=>?_,λk e B E=>?_,rfl⟩
 .cases j:Ox false k c with
  |false=>
   obtain⟨J,G,q⟩:=kZ (L0 j) B;cases y:get S.tm k with
   |some L=>rw[y]at q;subst q;rfl|none=>
    rw[y]at q;subst q;have:=I.tm k _ G E;rw[y]at this;cases this
  |true=>
   obtain⟨p,H⟩:=Zz (ls:=Oc c.as x) j;exact absurd E (O6.2 (ADh H B))
 .cases j:Ox true k c with
  |false=>
   obtain⟨J,G,q⟩:=kY (L0 j) B;cases y:get S.bx k with
   |some L=>rw[y]at q;subst q;rfl|none=>
    rw[y]at q;subst q;have:=I.bx k _ G E;rw[y]at this;cases this
  |true=>
   obtain⟨p,H⟩:=Zz (ls:=Oc c.as x) j;exact absurd E (O6.2 (ADg H B))
theorem ADy{γ:Type}:∀(l:List (Nat×Ent)) (K:List (Nat×Ent)->γ),AUW l K=K (l.map λp=>(p.1,⟨.one,[],0⟩))| [],K=>rfl|(k,_)::r,K=>ADy r _
theorem ADx{γ:Type}:∀(l:List (Nat×Bx)) (K:List (Nat×Bx)->γ),AUV l K=K (l.map λp=>(p.1,⟨[],0⟩))| [],K=>rfl|(k,_)::r,K=>ADx r _
theorem aP{α:Type}(z:α):∀l:List (Nat×α),Mr (l.map λp=>(p.1,z)) l=true| []=>rfl|(k,_)::r=>by simp only[AK,Mr,aP z r,J1,Bool.and_self]
theorem AWi{x:TA c.as}(j:∀k e,(k,e)∈S'.tm->look false k (seg c (Oc c.as x))=some (e.sh,e.cs)\/(look false k (seg c (Oc c.as x))=none/\get S.tm k=some e))
 (q:∀k e,(k,e)∈S'.bx->(∃sh,look true k (seg c (Oc c.as x))=some (sh,e.cs))\/(look true k (seg c (Oc c.as x))=none/\get S.bx k=some e)) :
 c.st S ⟨S'.tm.map λp=>(p.1,⟨.one,[],0⟩),S'.bx.map λp=>(p.1,⟨[],0⟩),[],0⟩ x=c.st S S' x:=by
 unfold Cut.st;dsimp only;rw[aK (aP _ _) j,aJ (aP _ _) q]
theorem AYc{d p c e:Nat}{K:St->Option ρ}{r:ρ}(h:S.see d p c e K=some r):∃S',(S.fg R).see d p c e=S'.fg R/\BZ S S'/\K S'=some r:=by
 unfold St.see at h;split at h
 .rename_i b q xs I G;split at h
  .rename_i E H;rw[tI]at h;obtain⟨x,y,h⟩:=Option.bind_eq_some_iff.1 h;split at h
   .rename_i q' ys J;refine⟨_,?_,BZ.Bg _ _ _,h⟩;have j:=E5 (R:=R) I;simp only[YO.er,AS.fg]at j;have B:at2 (xs.map (enc q)) ((xs.map (enc q)).length-1) c=some (.sl q'.size (ys.map (enc q'))):=by
     rw[List.getLast?_eq_getElem?]at y;simp only[at2,Ac,Ay,y,Ap,FV,J,U.fg]
    simp only[Lv.St.see,j,Jv,G,E,Ap,AS.fg,U.fg,B];rw[AW (Ey H),GP];rfl
   .cases h
  .cases h
 .cases h
theorem Eb:∀{x:HD R} {S:St} {K:Ex->St->Option ρ} {r:ρ} {Q:Ex->Lv.St->Prop},IL x S K=some r->(∀e S',BZ S S'->K e S'=some r->Q e (S'.fg R))->wp KC x.er (S.fg R) Q
 |.skip,S,K,r,Q,h,hQ=>hQ _ _ (BZ.refl _) h|.region ops E9,S,K,r,Q,h,hQ=>by
  obtain⟨S',O,B,G⟩:=uS (show evs ops S _=some r from h);rw[E8]at B;refine G _ ⟨S'.clo 6 (S'.pin++E9),?_⟩;rw[<-Sl];exact hQ _ _ (O.trans (BZ.clean _ _)) B
 |.Va x E9,S,K,r,Q,h,hQ=>by
  obtain⟨S',O,B,G⟩:=ZP (show evr x S _=some r from h);rw[E8]at B;refine G _ ⟨S'.clo 6 (S'.pin++E9),?_⟩;rw[<-Sl];exact hQ _ _ (O.trans (BZ.clean _ _)) B
 |.seq a b,S,K,r,Q,h,hQ=>by
  refine Eb (x:=a) (show IL a S _=some r from h) λe S' q j=>?_
  cases e with
  |n=>exact Eb (x:=b) j λe S2 E B=>hQ _ _ (q.trans E) B|x i=>exact hQ _ _ q j|r=>exact hQ _ _ q j
 |.join c a b,S,K,r,Q,h,hQ=>by
  refine Eb (x:=a) (show IL a S _=some r from h) λe S' q j=>?_
  cases e with
  |n=>
   dsimp only at j ⊢;split at j
   .rename_i x hx;obtain⟨G,Y,Z⟩:=uU (R:=R) hx (FL.of q);rw[ADy,ADx,ASJ,E8,AWi Y Z]at j;rw[<-G];refine Eb (x:=b) j λe S2 E B=>hQ _ _ ?_ B
    exact(BZ.st q).trans E
   .cases j
  |x i=>exact hQ _ _ q j|r=>exact hQ _ _ q j
 |.cond c kt ke t e,S,K,r,Q,h,hQ=>by
  simp only[IL]at h;split at h
  .rename_i b hb;have hs:=PW (R:=R) hb;simp only[YO.er,U.fg]at hs;rcases AHI h with ⟨rfl,j⟩|⟨rfl,j⟩
   .rw[E8]at j;refine⟨true,hs,S.clo 6 (S.pin++kt),?_⟩;rw[AW rfl,<-Sl];exact Eb (x:=t) j λe S2 E B=>hQ _ _ ((BZ.clean _ _).trans E) B
   .rw[E8]at j;refine⟨false,hs,S.clo 6 (S.pin++ke),?_⟩;rw[AT (by simp),<-Sl];exact Eb (x:=e) j λe S2 E B=>hQ _ _ ((BZ.clean _ _).trans E) B
  .cases h
 |.block id b,S,K,r,Q,h,hQ=>by
  refine Eb (x:=b) (show IL b S _=some r from h) λe S' q j=>?_
  cases e with
  |n=>exact hQ _ _ q j|x i=>
   dsimp only at j ⊢;split at j
   .rename_i hi;rw[AW hi];exact hQ _ _ q j
   .rename_i hi;rw[AT hi];exact hQ _ _ q j
  |r=>exact hQ _ _ q j
 |.loop c b,S,K,r,Q,h,hQ=>by
  simp only[IL]at h;split at h
  .rename_i x0 J;have key:∀(n:Nat) (x:TA c.as),BE (λL x=>(c.st S S x).GW λS1=>IL b S1 λe S'=>match e with
    |.n=>if Mr S.tm S'.tm=true/\Mr S.bx S'.bx=true then (match c.fit S S' with|some y=>L y|none=>none) else none
    |.x i=>K (.x i) S'|.r=>K .r S') n x=some r->AJ8 (wp KC b.er) n ((c.st S S x).fg R) Q:=by
    intro n
    induction n with
    |zero=>intro x h;rw[AJ9]at h;cases h
    |succ n ih=>
     intro x h;rw[Di]at h;rw[E8]at h;refine Eb (x:=b) h λe S' q j=>?_
     have hS:BZ S (c.st S S x):=BZ.st (BZ.refl S);cases e with
     |n=>
      dsimp only at j ⊢;split at j
      .rename_i H;split at j
       .rename_i y hy;rw[<-qv hy (FL.round q) H.1 H.2];exact ih y j
       .cases j
      .cases j
     |x i=>exact hQ _ _ (hS.trans q) j|r=>exact hQ _ _ (hS.trans q) j
   refine⟨big,?_⟩;obtain⟨G,_,_⟩:=uU (R:=R) J (FL.of (BZ.refl S));rw[<-G];exact key big x0 h
  .cases h
 |.exit id,S,K,r,Q,h,hQ=>hQ _ _ (BZ.refl _) h|.ret,S,K,r,Q,h,hQ=>hQ _ _ (BZ.refl _) h|.scope b,S,K,r,Q,h,hQ=>Eb (x:=b) (show IL b S K=some r from h) hQ|.or a b,S,K,r,Q,h,hQ=>(AYS (show orX (IL a S K) (IL b S K)=some r from h)).elim (λh=>.inl (Eb (x:=a) h hQ)) λh=>.inr (Eb (x:=b) h hQ)|.dead,S,K,r,Q,h,hQ=>by cases h
 |.ASz c b,S00,K,r,Q,h,hQ=>by
  refine⟨big+1,?_⟩;refine Eb (x:=b) (show IL b S00 _=some r from h) λe S I h=>?_
  cases e with
  |n=>
   dsimp only at h ⊢;split at h
   .rename_i x0 J;have key:∀(n:Nat) (x:TA c.as),BE (λL x=>(c.st S S x).GW λS1=>IL b S1 λe S'=>match e with
     |.n=>if Mr S.tm S'.tm=true/\Mr S.bx S'.bx=true then (match c.fit S S' with|some y=>L y|none=>none) else none
     |.x i=>K (.x i) S'|.r=>K .r S') n x=some r->AJ8 (wp KC b.er) n ((c.st S S x).fg R) Q:=by
     intro n
     induction n with
     |zero=>intro x h;rw[AJ9]at h;cases h
     |succ n ih=>
      intro x h;rw[Di]at h;rw[E8]at h;refine Eb (x:=b) h λe S' q j=>?_
      have hS:BZ S (c.st S S x):=BZ.st (BZ.refl S);cases e with
      |n=>
       dsimp only at j ⊢;split at j
       .rename_i H;split at j
        .rename_i y hy;rw[<-qv hy (FL.round q) H.1 H.2];exact ih y j
        .cases j
       .cases j
      |x i=>exact hQ _ _ (I.trans (hS.trans q)) j|r=>exact hQ _ _ (I.trans (hS.trans q)) j
    obtain⟨G,_,_⟩:=uU (R:=R) J (FL.of (BZ.refl S));rw[<-G];exact key big x0 h
   .cases h
  |x i=>exact hQ _ _ I h|r=>exact hQ _ _ I h
 |.Tv a b E9 d p c e,S,K,r,Q,h,hQ=>by
  obtain⟨S1,O,B,G⟩:=uS (show evs a S _=some r from h);split at B
  .rename_i id hid;split at B
   .rename_i bx hb;obtain⟨S2,Y,Z,h6⟩:=uS B;obtain⟨S3,k1,k2,k3⟩:=AYc (R:=R) Z;rw[E8]at k3;have X:=E5 (R:=R) hid;refine G _ ⟨⟨id,X,by rw[PI,hb];rfl⟩,h6 _ ⟨S3.clo 6 (S3.pin++E9),?_⟩⟩;rw[k1,<-Sl];exact hQ _ _ (((O.trans Y).trans k2).trans (BZ.clean _ _)) k3
   .cases B
  .cases B
end
end Y
namespace Y
section
variable{R:List GF}{ρ:Type}
def AZE:C->Bool|.st _=>true|.un _=>true|_=>false
def zX:List (Bool×C)->Bool| []=>true|(true,_)::r=>zX r|(false,c)::r=>(!AZE c&&decide (c≠.m))&&zX r
def ADQ:List PK->Bool| []=>true|.f _ l::r=>zX l&&ADQ r|_::r=>ADQ r
theorem tO(i:Nat):∀(l:List (Bool×C)) (x:su l),zX l=true->Lv.Ph i (Sj l x)=some ((Ph i l x).map Cap.fg)
 | [],x,h=>rfl|(true,c)::l,x,h=>by
  have j:=tO i l x.2 h;simp only[Sj,Lv.Ph,Ph,AK,Cap.fg];rw[j,FV];rfl
 |(false,c)::l,x,h=>by
  simp only[zX,AF,A8,decide_eq_true_eq]at h;have j:=tO i l x.2 h.2;cases c with
  |st n=>cases h.1.1
  |un n=>cases h.1.1
  |m=>exact(h.1.2 rfl).elim|_=>
   simp only[Sj,enc,Lv.Ph,Ph,cells,AK,j];rfl
theorem AUS(c:C)(x:c.D):Gl (shC c) (enc c x).length=true:=by
 rw[PG];cases c<;>rfl
theorem OY:∀(ks:List PK) (i:Nat) (fs:List Nat) (a:A ks) (S:St),ADQ ks=true->fs.map (λn=>(R[n]?).map GF.x)=(fX ks).map some ->
 Lv.initK i (ks.map PK.md) (aVs ks a) (S.fg R)=some ((initK i fs ks a S).fg R)
 | [],i,fs,a,S,_,_=>rfl|k::ks,i,fs,a,S,B,y=>by
  obtain⟨j,E⟩:=a;cases k with
  |v c=>
   have hE:enc c j=(cells c j).map U.fg:=FV c j;have q:=OY ks (i+1) fs E (S.Kb i (shC c) ((cells c j).map (Ed i))) B y;rw[MU,Qk,<-hE]at q;exact q
  |p c=>
   have hE:enc c j=(cells c j).map U.fg:=FV c j;have q:=OY ks (i+1) fs E (S.Kb i .one [.vp (.old i) (cells c j)]) B y;rw[MU]at q;simp only[AK,BX,AS.fg]at q;rw[<-hE]at q;exact q
  |b c=>
   have hE:enc c j=(cells c j).map U.fg:=FV c j;have q:=OY ks (i+1) fs E (let S1:=(S.Kb i .one [.bp i 0]).O1 i ((cells c j).map (Ed i));⟨S1.tm,S1.bx,i::S1.pin,S1.nv⟩) B y;have e:(let S1:=(S.Kb i .one [.bp i 0]).O1 i ((cells c j).map (Ed i));(⟨S1.tm,S1.bx,i::S1.pin,S1.nv⟩:St)).fg R={ S.fg R with tm:=Lv.put (S.fg R).tm i ⟨.one,[.bp i 0]⟩,bx:=Lv.put (S.fg R).bx i ((enc c j).map (Lv.Ed i)),pin:=i::(S.fg R).pin}:=by
    have G:=Ui (R:=R) (S.Kb i .one [.bp i 0]) i ((cells c j).map (Ed i));rw[MU,Qk,<-hE]at G;have H:=congrArg Lv.St.tm G;have I:=congrArg Lv.St.bx G;simp only[St.fg]at H I ⊢;rw[H,I];rfl
   rw[e]at q;exact q
  |o c=>
   have hE:enc c j=(cells c j).map U.fg:=FV c j;have q:=OY ks (i+1) fs E (S.Kb i (shC c) ((cells c j).map KN)) B y;rw[MU,Z5,<-hE]at q;exact q
  |m c=>
   have hE:enc c j=(cells c j).map U.fg:=FV c j;have q:=OY ks (i+1) fs E (let S1:=S.Kb i (shC c) ((cells c j).map KN);⟨S1.tm,S1.bx,i::S1.pin,S1.nv⟩) B y;have e:(let S1:=S.Kb i (shC c) ((cells c j).map KN);(⟨S1.tm,S1.bx,i::S1.pin,S1.nv⟩:St)).fg R={ S.fg R with tm:=Lv.put (S.fg R).tm i ⟨shC c,(enc c j).map Lv.KN⟩,pin:=i::(S.fg R).pin}:=by
    have G:=MU (R:=R) S i (shC c) ((cells c j).map KN);rw[Z5,<-hE]at G;have H:=congrArg Lv.St.tm G;simp only[St.fg]at H ⊢;rw[H];rfl
   rw[e]at q;have O:Gl (shC c) (enc c j).length=true:=AUS c j;show (if Gl (shC c) (enc c j).length=true then _ else none)=_;rw[AW O];exact q
  |f x l=>
   simp only[ADQ,AF]at B;cases fs with
   |nil=>simp[fX]at y|cons n fs=>
    simp only[fX,AK,CB]at y;have Q:xr R n=x:=by
     unfold xr;cases J:R[n]? with
     |none=>rw[J]at y;simp at y|some g=>rw[J]at y;simpa using y.1
    have q:=OY ks (i+1) fs E (S.Kb i .one [.fn n (Ph i l j)]) B.2 y.2;rw[MU]at q;have L:Lv.Ph i (Sj l j)=some ((Ph i l j).map Cap.fg):=tO i l j B.1;show (match Lv.Ph i (Sj l j) with|some ls=>Lv.initK (i+1) _ _ _|none=>none)=_;rw[L];simp only[AK,BX,AS.fg,Q]at q;exact q
theorem Nj:∀{rs:List Ig} {S:St} {K:List (Option Nat)->List AS->Option ρ} {r:ρ},Mq rs S K=some r->∃ns ls,Lv.Mq rs (S.fg R)=some (ns,ls.map (AS.fg R))/\K ns ls=some r
 | [],S,K,r,h=>⟨[],[],rfl,h⟩|.tmp t::rs,S,K,r,h=>by
  simp only[Mq]at h;split at h
  .rename_i e y;split at h
   .rename_i E;obtain⟨ns,ls,j,q⟩:=Nj h;refine⟨_,_,?_,q⟩;have:=Lg (R:=R) y;simp only[YO.er]at this;simp only[Lv.Mq,this,j,En.fg,Ac,E,if_true,Cs];rfl
   .cases h
  .cases h
 |.cell t n::rs,S,K,r,h=>by
  simp only[Mq]at h;split at h
  .rename_i id o y;obtain⟨ls',j,h⟩:=PS (R:=R) h;obtain⟨ns,ls,q,B⟩:=Nj h;refine⟨_,_,?_,B⟩;have:=E5 (R:=R) y;simp only[YO.er,AS.fg]at this j;simp only[Lv.Mq,this,j,q,Cs]
  .cases h
 |.bx _::rs,S,K,r,h=>by cases h
 |.vw _ _::rs,S,K,r,h=>by cases h
 |.un _ _::rs,S,K,r,h=>by cases h
theorem rj:∀{ls:List AS},Of ls=true->Lv.Of (ls.map (AS.fg R))=true
 | [],_=>rfl|l::ls,h=>by
  simp only[Of,AF]at h;simp only[AK,Lv.Of,AF];refine⟨?_,rj h.2⟩;have j:=h.1
  grind[AS.fg,lP]
theorem AWZ{rk:RK}{rs:List Ig}{S:St}{K:St->List U->Option ρ}{r:ρ}(h:cP rk rs S K=some r):∃S' us,Lv.cP rs (S.fg R)=some (S'.fg R,rk.sh,us.map U.fg)/\K S' us=some r:=by
 unfold cP at h;split at h
 .rename_i k c t;split at h
  .rename_i id y;have j:=E5 (R:=R) y;simp only[YO.er,AS.fg]at j;split at h
   .rename_i ls Y;split at h
    .cases h
    .rename_i L;split at h
     .rename_i E;split at h
      .rename_i us G;subst E;refine⟨S,us,?_,h⟩;have O:id∉(S.fg R).pin:=λX=>L (mem_iff.2 X)
       simp only[Lv.cP,j,PI,Y,Ap,Ob,QD G];rw[AT O];rfl
      .cases h
     .cases h
   .cases h
  .cases h
 .rename_i k c t k';split at h
  .rename_i E;subst E;split at h
   .rename_i k'' c' xs y;have j:=E5 (R:=R) y;simp only[YO.er,AS.fg]at j;split at h
    .rename_i E;subst E;exact⟨S,_,by simp only[Lv.cP,j,if_true];rfl,h⟩
    .cases h
   .rename_i q sub y;have j:=E5 (R:=R) y;simp only[YO.er,AS.fg]at j;split at h
    .rename_i x Z;refine⟨_,_,?_,h⟩;simp only[Lv.cP,j,Jv,Z,Ap,AS.fg,Vx,AK,BX,Yp];rfl
    .cases h
   .cases h
  .cases h
 .rename_i n c cs t n' r' rs;split at h
  .rename_i J;subst J;split at h
   .rename_i id o y;have B:=E5 (R:=R) y;obtain⟨ls',Q,h⟩:=PS (R:=R) h;simp only[YO.er,AS.fg]at B Q;split at h
    .rename_i L;obtain⟨ns,ls,j,h⟩:=Nj (R:=R) h;split at h
     .rename_i I;split at h
      .rename_i S' us G;obtain⟨H,_⟩:=MT (R:=R) G;refine⟨S',_,?_,h⟩;simp only[Lv.cP,B,Q];rw[AW (rj L),j];dsimp only;rw[H,I];simp only[Cs,Fe];rfl
      .cases h
     .cases h
    .cases h
   .cases h
  .cases h
 .rename_i cs;obtain⟨ns,ls,j,h⟩:=Nj (R:=R) h;split at h
  .rename_i I;split at h
   .rename_i S' us G;obtain⟨H,_⟩:=MT (R:=R) G;refine⟨S',us,?_,h⟩;have:Lv.cP rs (S.fg R)=match Lv.Mq rs (S.fg R) with
     |some (ns,ls)=>(match Lv.Du (S.fg R) ls with|some (S',cs)=>some (S',ADv ns,cs)|none=>none)
     |none=>none:=by
     rcases rs with _|⟨a,_|⟨b,rs⟩⟩
     .rfl
     .cases a<;>first|rfl|(simp[Lv.Mq]at j)
     .cases a<;>first|rfl|(simp[Lv.Mq]at j)
    rw[this,j];dsimp only;rw[H,I];rfl
   .cases h
  .cases h
 .cases h
theorem AYU{l:AS}{u:U}(h:owT l=some u):Lv.owT (AS.fg R l)=some u.fg:=by
 cases l with
 |ow x=>cases h;rfl
 |t x=>
  grind[owT,AS.fg,Lv.owT,lP]
 |_=>cases h
theorem AKI:∀{ls:List AS} {us:List U},cO ls=some us->Lv.cO (ls.map (AS.fg R))=some (us.map U.fg)/\us.length=ls.length
 | [],us,h=>by cases h;exact⟨rfl,rfl⟩
 |l::ls,us,h=>by
  simp only[cO]at h;split at h
  .rename_i x xs j q;cases h;obtain⟨y,B⟩:=AKI q;simp only[AK,Lv.cO,AYU j,y,AI,B];exact⟨trivial,trivial⟩
  .cases h
theorem dy{k:Nat}:∀{ls:List AS} {us:List U},F5 k ls=some us->us.length=ls.length
 | [],us,h=>by cases h;rfl
 |l::ls,us,h=>by
  simp only[F5]at h;split at h
  .rename_i x xs q j;cases h;simp only[AI,dy j]
  .cases h
def chunks:List C->List U->List (List U)| [],_=>[]|c::cs,us=>us.take c.size::chunks cs (us.drop c.size)
theorem eG:∀(cs:List C) (us:List U),(chunks cs us).length=cs.length| [],_=>rfl|c::cs,us=>by simp only[chunks,AI,eG cs]
theorem ai:∀(cs:List C) (us:List U),us.length=VJ cs->(chunks cs us).flatten=us
 | [],us,h=>by cases us with|nil=>rfl|cons u us=>cases h
 |c::cs,us,h=>by
  simp only[VJ]at h;simp only[chunks,List.flatten_cons];rw[ai cs _ (by rw[BH];omega),CY]
theorem eF:∀(cs j:List C) (us os:List U),us.length=VJ cs->chunks (cs++j) (us++os)=chunks cs us++chunks j os
 | [],j,us,os,h=>by cases us with|nil=>rfl|cons u us=>cases h
 |c::cs,j,us,os,h=>by
  simp only[VJ]at h;simp only[Bi,chunks];rw[List.take_append_of_le_length (by omega),List.drop_append_of_le_length (by omega),eF cs j _ os (by rw[BH];omega)]
theorem mF:∀{cs:List C} {us:List U} {x:Tu cs},ofT cs us=some x->RP cs x=(chunks cs us).map (List.map U.fg)
 | [],us,x,h=>rfl| [c],us,x,h=>by
  have j:ofC c us=some x:=h;show [enc c x]=_;rw[I8 j];simp only[chunks,AK,BX];rw[List.take_of_length_le (by rw[AWD j];exact Ab _)]
 |c::q::cs,us,x,h=>by
  simp only[ofT]at h;split at h
  .rename_i a b y B;cases h;show enc c a::RP (q::cs) b=_;rw[I8 y,mF B];rfl
  .cases h
theorem MG{S:St}:∀{ks:List PK} {i:Nat} {os:List U},Fb i ks S=some os->Lv.Fb i (ks.map PK.md) (S.fg R)=some ((chunks (ME ks) os).map (List.map U.fg))/\os.length=VJ (ME ks)
 | [],i,os,h=>by cases h;exact⟨rfl,rfl⟩
 |.b c::ks,i,os,h=>by
  simp only[Fb]at h;split at h
  .rename_i ls J B E;obtain⟨G,H⟩:=MG (ks:=ks) E;split at h
   .rename_i q;split at h
    .rename_i us y;cases h;have j:us.length=c.size:=by rw[dy y,q.2]
     have I:i∈(S.fg R).pin:=mem_iff.1 q.1;refine⟨?_,by simp only[AJ,ME,VJ,j,H]⟩;simp only[AK,PK.md,Lv.Fb,PI,B,Ap,G,ME,chunks];rw[AW I,QD y,Ca j,Cr j];rfl
    .cases h
   .cases h
  .cases h
 |.m c::ks,i,os,h=>by
  simp only[Fb]at h;split at h
  .rename_i e J B E;obtain⟨G,H⟩:=MG (ks:=ks) E;split at h
   .rename_i q;split at h
    .rename_i us y;cases h;obtain⟨L,O⟩:=AKI (R:=R) y;have j:us.length=c.size:=by rw[O,q.2.2]
     have I:i∈(S.fg R).pin:=mem_iff.1 q.1;refine⟨?_,by simp only[AJ,ME,VJ,j,H]⟩;simp only[AK,PK.md,Lv.Fb,Xj,B,Ap,G,ME,chunks,Ent.fg,Ac];rw[AW ⟨I,q.2.1⟩,L,Ca j,Cr j];rfl
    .cases h
   .cases h
  .cases h
 |.v c::ks,i,os,h=>MG (ks:=ks) h|.p c::ks,i,os,h=>MG (ks:=ks) h|.o c::ks,i,os,h=>MG (ks:=ks) h|.f x l::ks,i,os,h=>MG (ks:=ks) h
theorem ACV:∀(cs:List C) (x:Tu cs),(RP cs x).map List.length=cs.map C.size
 | [],x=>rfl| [c],x=>congrArg (λn=>[n]) (PG c x)|c::j::cs,x=>by
  obtain⟨a,b⟩:=x;show (enc c a).length::(RP (j::cs) b).map List.length=_;rw[ACV (j::cs) b,PG];rfl
theorem MF:∀(ks:List PK) (a:A ks) (os:List (List T)),os.map List.length=(ME ks).map C.size->Lv.G9 (ks.map PK.md) (aVs ks a) os=true
 | [],a,[],h=>rfl| [],a,o::os,h=>by cases h
 |.b c::ks,a,[],h=>by cases h
 |.b c::ks,a,o::os,h=>by
  obtain⟨j,q⟩:=a;simp only[ME,AK,CB]at h;have y:(enc c j).length=c.size:=PG c j;show (o.length==(enc c j).length&&Lv.G9 (ks.map PK.md) (aVs ks q) os)=true;rw[y,h.1,MF ks q os h.2];simp
 |.m c::ks,a,[],h=>by cases h
 |.m c::ks,a,o::os,h=>by
  simp only[ME,AK,CB]at h;exact MF ks a.2 os h.2
 |.v c::ks,a,os,h=>MF ks a.2 os h|.p c::ks,a,os,h=>MF ks a.2 os h|.o c::ks,a,os,h=>MF ks a.2 os h|.f x l::ks,a,os,h=>MF ks a.2 os h
end
def YF.er(f:YF):CN:=.mk (f.ps.map PK.md) f.rs f.body.er
theorem AEn{f:YF}{S:St}{r:Tu (f.rk.cs++ME f.ps)}(h:fin f.ps f.rk f.rs S=some r) :
 Lv.fin (f.ps.map PK.md) f.rs (S.fg f.R) f.rk.sh ((RP _ r).take f.rk.cs.length).flatten ((RP _ r).drop f.rk.cs.length):=by
 unfold fin at h;obtain⟨S',us,B,h⟩:=AWZ (R:=f.R) h;split at h
 .rename_i os G;split at h
  .rename_i y;obtain⟨E,H⟩:=MG (R:=f.R) G;have q:=mF h;rw[eF _ _ _ _ y,Cs]at q;have j:((chunks f.rk.cs us).map (List.map U.fg)).length=f.rk.cs.length:=by rw[Ac,eG]
   rw[q,Ca j,Cr j];refine⟨S'.fg f.R,?_,E⟩;rw[B,<-Kg,ai _ _ y]
  .cases h
 .cases h
theorem YF.sound{f:YF}(q:ADQ f.ps=true)(j:f.fs.map (λn=>(f.R[n]?).map GF.x)=(fX f.ps).map some){a:A f.ps}{r:Tu (f.rk.cs++ME f.ps)}(h:f.run a=some r) :
 KC f.er (aVs f.ps a) f.rk.sh ((RP _ r).take f.rk.cs.length).flatten ((RP _ r).drop f.rk.cs.length):=by
 unfold YF.run at h;rw[E8]at h;refine .intro ⟨_,OY (R:=f.R) f.ps 0 f.fs a ⟨[],[],[],0⟩ q j,?_,?_⟩
 .grind[Eb,AEn]
 grind[MF,ACV,ME,List.map_drop,List.drop_left',List.length_map]
def YF.gf(f:YF)(hp:ADQ f.ps=true)(hf:f.fs.map (λn=>(f.R[n]?).map GF.x)=(fX f.ps).map some)(d:A f.ps->Option (Tu (f.rk.cs++ME f.ps)))(hd:∀a,f.run a=d a):GF:=
 ⟨f.er,f.ps,f.rk,d,rfl,λa r h=>YF.sound hp hf ((hd a).trans h)⟩
end Y
end Lv
namespace Lv
open Y
open Go
def oD(c:C)(xs:List c.D)(i:Int)(ys:List c.D):Option (List c.D):=
 if 0<=i/\i.toNat<=xs.length/\ys≠[]/\xs.length+ys.length<=lim then some (xs.take i.toNat++ys++xs.drop i.toNat) else none
theorem ASE{c:C}(q:U7 c=true)(xs:List c.D)(i:Int)(ys:List c.D)(r:List c.D)(h:oD c xs i ys=some r) :
 KC (.NC (2*c.size) [.o,.v,.v]) [.o .one (enc (.l c) xs),.v .one (enc .i i),.v .one (enc (.l c) ys)] .one (enc (.l c) r) []:=by
 unfold oD at h;split at h
 .rename_i j;cases h;intro Rn hRn;refine hRn _ _ _ _ _ ?_;show U1 (2*c.size) _ _ _ _;unfold U1;refine⟨by omega,?_⟩;rw[AW (by omega)];refine⟨_,xs.map (enc c),_,ys.map (enc c),i,rfl,rfl,?_,rfl,?_,JU q _,JU q _,j.1,by simpa using j.2.1,by simpa using j.2.2.1,by simpa using j.2.2.2,rfl,?_,rfl⟩
  .simp[eOf]
  .simp[eOf]
  .show [T.sl c.size ((xs.take i.toNat++ys++xs.drop i.toNat).map (enc c))]=_;simp[DB,Cl]
 .cases h
def AX2(c:C)(hf:U7 c=true):GF:=
 ⟨.NC (2*c.size) [.o,.v,.v],[.o (.l c),.v .i,.v (.l c)],.ret [.l c],λa=>oD c a.1 a.2.1 a.2.2.1,rfl,λa r h=>ASE hf _ _ _ r h⟩
def ACS(c:C)(xs:List c.D)(i j:Int):Option (List c.D):=
 if 0<=i/\i<j/\j<=xs.length then some (xs.take i.toNat++xs.drop j.toNat) else none
theorem AOm{c:C}(E:U7 c=true)(y:decide (0<c.size)=true)(xs:List c.D)(i j:Int)(r:List c.D)(h:ACS c xs i j=some r) :
 KC (.NC (2*c.size+1) [.o,.v,.v]) [.o .one (enc (.l c) xs),.v .one (enc .i i),.v .one (enc .i j)] .one (enc (.l c) r) []:=by
 unfold ACS at h;split at h
 .rename_i q;cases h;intro Rn hRn;refine hRn _ _ _ _ _ ?_;show U1 (2*c.size+1) _ _ _ _;unfold U1;have B:(2*c.size+1) / 2=c.size:=by omega
  have y:=of_decide_eq_true y;refine⟨by omega,?_⟩;rw[AT (by omega),B];refine⟨xs.map (enc c),i,j,rfl,JU E _,q.1,q.2.1,by simpa using q.2.2,rfl,?_,rfl⟩;show [T.sl c.size ((xs.take i.toNat++xs.drop j.toNat).map (enc c))]=_;simp[DB,Cl]
 .cases h
def AXr(c:C)(hf:U7 c=true)(hs:decide (0<c.size)=true):GF:=
 ⟨.NC (2*c.size+1) [.o,.v,.v],[.o (.l c),.v .i,.v .i],.ret [.l c],λa=>ACS c a.1 a.2.1 a.2.2.1,rfl,λa r h=>AOm hf hs _ _ _ r h⟩
structure y7(ps:List PK)(rk:RK) where
 x:CN
 d:A ps->Option (Tu (rk.cs++ME ps))
 ms:E2 x=ps.map PK.md
 ok:∀a r,d a=some r->KC x (aVs ps a) rk.sh ((RP _ r).take rk.cs.length).flatten ((RP _ r).drop rk.cs.length)
def y7.gf{ps:List PK}{rk:RK}(r:y7 ps rk):GF:=⟨r.x,ps,rk,r.d,r.ms,r.ok⟩
def y7.of(g:GF):y7 g.ps g.rk:=⟨g.x,g.d,g.ms,g.ok⟩
def y7.nil(ps:List PK)(rk:RK):y7 ps rk:=⟨.NC 1 (ps.map PK.md),λ_=>none,rfl,λ_ _ h=>by cases h⟩
end Lv
namespace Lv
open Go (IntKind BinOp UnOp)
variable{α0 α1 α2 α3 α4 α5 γ:Type}
section
variable{a b c d e f g h:Type}
def Bm(k:a->h)(x:a×b):h:=k x.1
def BF(k:a->b->h)(x:a×b×c):h:=k x.1 x.2.1
def GQ(k:a->b->c->h)(x:a×b×c×d):h:=k x.1 x.2.1 x.2.2.1
def WE(k:a->b->c->d->h)(x:a×b×c×d×e):h:=k x.1 x.2.1 x.2.2.1 x.2.2.2.1
def AUw(k:a->b->c->d->e->h)(x:a×b×c×d×e×f):h:=k x.1 x.2.1 x.2.2.1 x.2.2.2.1 x.2.2.2.2.1
def AG6(k:a->b->c->d->e->f->h)(x:a×b×c×d×e×f×g):h:=k x.1 x.2.1 x.2.2.1 x.2.2.2.1 x.2.2.2.2.1 x.2.2.2.2.2.1
end
namespace Y
def YF.EW(f:YF)(d:A f.ps->Option (Tu (f.rk.cs++ME f.ps)))(hd:∀a,f.run a=d a:=by intro a;kernel_rfl)(hp:ADQ f.ps=true:=by rfl)(hf:f.fs.map (λn=>(f.R[n]?).map GF.x)=(fX f.ps).map some:=by rfl):GF:=f.gf hp hf d hd
end Y
def aW{γ:Type}(x y:B4)(X:Option γ):Option γ:=eqv x.Data y.Data (eqv x.Safe y.Safe X)
theorem Pb(x:B4)(X:Option γ):aW x x X=X:=by unfold aW;simp only[Cp]
def SI{γ:Type}(x y:Cw)(X:Option γ):Option γ:=eqv x.Code y.Code (eqv x.Ids y.Ids X)
theorem yp(x:Cw)(X:Option γ):SI x x X=X:=by unfold SI;simp only[Cp]
def yu{γ:Type}(x y:Df)(X:Option γ):Option γ:=eqv x.Ti y.Ti (eqv x.at_ y.at_ (eqv x.zK y.zK X))
theorem yv(x:Df)(X:Option γ):yu x x X=X:=by unfold yu;simp only[Cp]
def Pc{γ:Type}(x y:BS)(X:Option γ):Option γ:=eqv x.b_ y.b_ (eqv x.i_ y.i_ (eqv x.h_ y.h_ X))
theorem Yu(x:BS)(X:Option γ):Pc x x X=X:=by unfold Pc;simp only[Cp]
def yn{γ:Type}(x y:A0)(X:Option γ):Option γ:=eqv x.Level y.Level (eqv x.A4 y.A4 (eqv x.Id y.Id (eqv x.BK y.BK X)))
theorem yo(x:A0)(X:Option γ):yn x x X=X:=by unfold yn;simp only[Cp]
def AXP{γ:Type}(x y:Bp)(X:Option γ):Option γ:=eqv x.Kind y.Kind (eqv x.Id y.Id (eqv x.AZ y.AZ (eqv x.Bz y.Bz (eqv x.BK y.BK (eqv x.DS y.DS X)))))
theorem WH(x:Bp)(X:Option γ):AXP x x X=X:=by unfold AXP;simp only[Cp]
def yq{γ:Type}(x y:Bo)(X:Option γ):Option γ:=eqv x.Log.Data y.Log.Data (eqv x.Log.Safe y.Log.Safe (eqv x.Eo.Data y.Eo.Data (eqv x.Eo.Safe y.Eo.Safe (eqv x.Odd.Data y.Odd.Data (eqv x.Odd.Safe y.Odd.Safe X)))))
theorem SJ(x:Bo)(X:Option γ):yq x x X=X:=by unfold yq;simp only[Cp]
def Cc{γ:Type}(x y:AY)(X:Option γ):Option γ:=eqv x.AX y.AX (eqv x.CZ y.CZ (eqv x.Room y.Room (eqv x.BK y.BK (eqv x.CI y.CI (eqv x.B6 y.B6 (eqv x.Rest y.Rest (eqv x.Cg y.Cg (eqv x.C4 y.C4 X))))))))
theorem Ns(x:AY)(X:Option γ):Cc x x X=X:=by unfold Cc;simp only[Cp]
def LM{γ:Type}(x y:AU)(X:Option γ):Option γ:=eqv x.Id y.Id (eqv x.AZ y.AZ (eqv x.Bz y.Bz (eqv x.BK y.BK (eqv x.DS y.DS (eqv x.Since y.Since (eqv x.A4 y.A4 (eqv x.State y.State (eqv x.DM y.DM (eqv x.Dm y.Dm X)))))))))
theorem Gn(x:AU)(X:Option γ):LM x x X=X:=by unfold LM;simp only[Cp]
def LL{γ:Type}(x y:AE)(X:Option γ):Option γ:=eqv x.AQ.AX y.AQ.AX (eqv x.AQ.CZ y.AQ.CZ (eqv x.AQ.Room y.AQ.Room (eqv x.AQ.BK y.AQ.BK (eqv x.AQ.CI y.AQ.CI (eqv x.AQ.B6 y.AQ.B6 (eqv x.AQ.Rest y.AQ.Rest (eqv x.AQ.Cg y.AQ.Cg (eqv x.AQ.C4 y.AQ.C4 (eqv x.Now y.Now (eqv x.A4 y.A4 (eqv x.AG y.AG (eqv x.AH y.AH (eqv x.BD y.BD (eqv x.BB y.BB X))))))))))))))
theorem Jo(x:AE)(X:Option γ):LL x x X=X:=by unfold LL;simp only[Cp]
def nc{γ:Type}(x y:A6)(X:Option γ):Option γ:=eqv x.Av.AQ.AX y.Av.AQ.AX (eqv x.Av.AQ.CZ y.Av.AQ.CZ (eqv x.Av.AQ.Room y.Av.AQ.Room (eqv x.Av.AQ.BK y.Av.AQ.BK (eqv x.Av.AQ.CI y.Av.AQ.CI (eqv x.Av.AQ.B6 y.Av.AQ.B6 (eqv x.Av.AQ.Rest y.Av.AQ.Rest (eqv x.Av.AQ.Cg y.Av.AQ.Cg (eqv x.Av.AQ.C4 y.Av.AQ.C4 (eqv x.Av.Now y.Av.Now (eqv x.Av.A4 y.Av.A4 (eqv x.Av.AG y.Av.AG (eqv x.Av.AH y.Av.AH (eqv x.Av.BD y.Av.BD (eqv x.Av.BB y.Av.BB (eqv x.An.Log.Data y.An.Log.Data (eqv x.An.Log.Safe y.An.Log.Safe (eqv x.An.Eo.Data y.An.Eo.Data (eqv x.An.Eo.Safe y.An.Eo.Safe (eqv x.An.Odd.Data y.An.Odd.Data (eqv x.An.Odd.Safe y.An.Odd.Safe (eqv x.Seq y.Seq (eqv x.Laid y.Laid X))))))))))))))))))))))
theorem MV(x:A6)(X:Option γ):nc x x X=X:=by unfold nc;simp only[Cp]
def yr{γ:Type}(x y:CQ)(X:Option γ):Option γ:=eqv x.Ar.Av.AQ.AX y.Ar.Av.AQ.AX (eqv x.Ar.Av.AQ.CZ y.Ar.Av.AQ.CZ (eqv x.Ar.Av.AQ.Room y.Ar.Av.AQ.Room (eqv x.Ar.Av.AQ.BK y.Ar.Av.AQ.BK (eqv x.Ar.Av.AQ.CI y.Ar.Av.AQ.CI (eqv x.Ar.Av.AQ.B6 y.Ar.Av.AQ.B6 (eqv x.Ar.Av.AQ.Rest y.Ar.Av.AQ.Rest (eqv x.Ar.Av.AQ.Cg y.Ar.Av.AQ.Cg (eqv x.Ar.Av.AQ.C4 y.Ar.Av.AQ.C4 (eqv x.Ar.Av.Now y.Ar.Av.Now (eqv x.Ar.Av.A4 y.Ar.Av.A4 (eqv x.Ar.Av.AG y.Ar.Av.AG (eqv x.Ar.Av.AH y.Ar.Av.AH (eqv x.Ar.Av.BD y.Ar.Av.BD (eqv x.Ar.Av.BB y.Ar.Av.BB (eqv x.Ar.An.Log.Data y.Ar.An.Log.Data (eqv x.Ar.An.Log.Safe y.Ar.An.Log.Safe (eqv x.Ar.An.Eo.Data y.Ar.An.Eo.Data (eqv x.Ar.An.Eo.Safe y.Ar.An.Eo.Safe (eqv x.Ar.An.Odd.Data y.Ar.An.Odd.Data (eqv x.Ar.An.Odd.Safe y.Ar.An.Odd.Safe (eqv x.Ar.Seq y.Ar.Seq (eqv x.Ar.Laid y.Ar.Laid (eqv x.Kt y.Kt (eqv x.Ei y.Ei (eqv x.MX y.MX X)))))))))))))))))))))))))
theorem yt(x:CQ)(X:Option γ):yr x x X=X:=by unfold yr;simp only[Cp]
def Em:List U:=[.nil,.int .i64 0,.int .i64 0,.int .i64 0,.int .i64 0,.int .i64 0,.int .i64 0,.int .i64 0,.int .i64 0,.int .i64 0,.int .i64 0,.nil,.nil,.nil,.nil]
def AWr:List U:=[.int .i64 0,.int .i64 0,.int .i64 0,.int .i64 0,.int .i64 0,.int .i64 0,.int .i64 0,.int .i64 0,.int .i64 0,.int .i64 0]
def AEQ:List U:=[.int .i64 0,.int .i64 0,.int .i64 0,.int .i64 0,.int .i64 0,.int .i64 0,.int .i64 0,.int .i64 0,.nil]
def AWq:List U:=[.int .i64 0,.int .i64 0,.int .i64 0,.int .i64 0,.int .i64 0,.nil,.nil]
def ev2{α0 α1 γ:Type}(a0:α0)(a1:α1)(X:Option γ):Option γ:=eqv a0 a0 (eqv a1 a1 X)
theorem Lk(a0:α0)(j:α1)(X:Option γ):ev2 a0 j X=X:=by unfold ev2;simp only[Cp]
def ev3{α0 α1 α2 γ:Type}(a0:α0)(a1:α1)(a2:α2)(X:Option γ):Option γ:=eqv a0 a0 (eqv a1 a1 (eqv a2 a2 X))
theorem Ll(a0:α0)(j:α1)(q:α2)(X:Option γ):ev3 a0 j q X=X:=by unfold ev3;simp only[Cp]
def ev4{α0 α1 α2 α3 γ:Type}(a0:α0)(a1:α1)(a2:α2)(a3:α3)(X:Option γ):Option γ:=eqv a0 a0 (eqv a1 a1 (eqv a2 a2 (eqv a3 a3 X)))
theorem Lm(a0:α0)(j:α1)(q:α2)(a3:α3)(X:Option γ):ev4 a0 j q a3 X=X:=by unfold ev4;simp only[Cp]
def ev5{α0 α1 α2 α3 α4 γ:Type}(a0:α0)(a1:α1)(a2:α2)(a3:α3)(a4:α4)(X:Option γ):Option γ:=eqv a0 a0 (eqv a1 a1 (eqv a2 a2 (eqv a3 a3 (eqv a4 a4 X))))
theorem Lo(a0:α0)(j:α1)(q:α2)(a3:α3)(a4:α4)(X:Option γ):ev5 a0 j q a3 a4 X=X:=by unfold ev5;simp only[Cp]
def ev6{α0 α1 α2 α3 α4 α5 γ:Type}(a0:α0)(a1:α1)(a2:α2)(a3:α3)(a4:α4)(a5:α5)(X:Option γ):Option γ:=eqv a0 a0 (eqv a1 a1 (eqv a2 a2 (eqv a3 a3 (eqv a4 a4 (eqv a5 a5 X)))))
theorem K5(a0:α0)(j:α1)(q:α2)(a3:α3)(a4:α4)(y:α5)(X:Option γ):ev6 a0 j q a3 a4 y X=X:=by unfold ev6;simp only[Cp]
def ev7{α0 α1 α2 α3 α4 α5 α6 γ:Type}(a0:α0)(a1:α1)(a2:α2)(a3:α3)(a4:α4)(a5:α5)(a6:α6)(X:Option γ):Option γ:=eqv a0 a0 (eqv a1 a1 (eqv a2 a2 (eqv a3 a3 (eqv a4 a4 (eqv a5 a5 (eqv a6 a6 X))))))
theorem Lp{α6:Type}(a0:α0)(j:α1)(q:α2)(a3:α3)(a4:α4)(y:α5)(B:α6)(X:Option γ):ev7 a0 j q a3 a4 y B X=X:=by unfold ev7;simp only[Cp]
def ev8{α0 α1 α2 α3 α4 α5 α6 α7 γ:Type}(a0:α0)(a1:α1)(a2:α2)(a3:α3)(a4:α4)(a5:α5)(a6:α6)(a7:α7)(X:Option γ):Option γ:=eqv a0 a0 (eqv a1 a1 (eqv a2 a2 (eqv a3 a3 (eqv a4 a4 (eqv a5 a5 (eqv a6 a6 (eqv a7 a7 X)))))))
theorem Lq{α6 α7:Type}(a0:α0)(j:α1)(q:α2)(a3:α3)(a4:α4)(y:α5)(B:α6)(E:α7)(X:Option γ):ev8 a0 j q a3 a4 y B E X=X:=by unfold ev8;simp only[Cp]
def orE{ρ:Type}(a b:Option ρ):Option ρ:=match a with|some r=>some r|none=>b
def GF.orE(g:GF)(d d2:A g.ps->Option (Tu (g.rk.cs++ME g.ps)))(hd:∀a,d a=Lv.orE (g.d a) (d2 a))
 (hk:∀a r,d2 a=some r->KC g.x (aVs g.ps a) g.rk.sh ((RP _ r).take g.rk.cs.length).flatten ((RP _ r).drop g.rk.cs.length)):GF:=
 ⟨g.x,g.ps,g.rk,d,g.ms,λa r h=>by
  rw[hd]at h;unfold Lv.orE at h;split at h
  .rename_i r' h';cases h;exact g.ok a _ h'
  .exact hk a r h⟩
namespace Y
section
variable{R:List GF}
def qn(l:List (YOp R)):List (Option (Nat×Bool)×YOp R):=l.map λo=>(none,o)
def qf(g:Nat)(l:List (YOp R)):List (Option (Nat×Bool)×YOp R):=l.map λo=>(some (g,false),o)
def qt(g:Nat)(l:List (YOp R)):List (Option (Nat×Bool)×YOp R):=l.map λo=>(some (g,true),o)
def qr(l:List (List (Option (Nat×Bool)×YOp R)))(E9:List Nat):HD R:=.region l.flatten E9
def q1(l:List (YOp R))(E9:List Nat):HD R:=.region (qn l) E9
def qdl(r:B2 R):Nat->List (Option (Nat×Bool)×YOp R)->B2 R|_,[]=>r|i,o::l=>.op i o.1 [] o.2 (qdl r (i+1) l)
def qd(i:Nat)(l:List (List (Option (Nat×Bool)×YOp R)))(r:B2 R):B2 R:=qdl r i l.flatten
def qm(d s:Nat):YOp R:=.mv d (.tmp s)
def qa(d s:Nat):YOp R:=.as d (.tmp s)
def qo(d o s:Nat):YOp R:=.fa d o (.tmp s)
def ql(d s:Nat):YOp R:=.ld d none (.tmp s)
def qL(d n s:Nat):YOp R:=.ld d (some n) (.tmp s)
def qb(d:Nat)(o:BinOp)(x y:Nat):YOp R:=.bin d .num o (.tmp x) (.tmp y)
def qi(d:Nat)(o:BinOp)(x:Nat)(n:Int):YOp R:=.bin d .num o (.tmp x) (.k (.int .i64 n))
def qx(d s:Nat):YOp R:=.un d .not (.tmp s)
def qp(d c x:Nat):YOp R:=.pick d (.tmp c) (.k (.bool true)) (.tmp x)
def qq(d c x:Nat):YOp R:=.pick d (.tmp c) (.tmp x) (.k (.bool false))
def qc(d:Nat)(g:GF)(hf:([]:List Nat).map (λn=>(R[n]?).map GF.x)=(fX g.ps).map some)(l:List Nat):YOp R:=.call d g [] hf (l.map .tmp)
def qz(d s:Nat):YOp R:=.len d (.tmp s)
def qe(d:Nat)(c:C)(x i:Nat):YOp R:=.ia d c (.tmp x) (.tmp i)
def qk(d:Nat)(n:Int):YOp R:=.mv d (.k (.int .i64 n))
def qK(d:Nat)(n:Int):YOp R:=.as d (.k (.int .i64 n))
def qB(d:Nat)(b:Bool):YOp R:=.as d (.k (.bool b))
def qw(n x v:Nat):YOp R:=.st n (.tmp x) (.tmp v)
def qu(d s:Nat):YOp R:=.box d (.tmp s)
def qj(n:Int):YO:=.k (.int .i64 n)
instance (n:Nat):OfNat YO n:=⟨.tmp n⟩
def kpF:Nat->Nat->Nat->List Nat
 |0,_,_=>[]|f+1,i,n=>match Nat.beq n 0 with|true=>[]|false=>match Nat.testBit n 0 with|true=>i::kpF f (i+1) (n / 2)|false=>kpF f (i+1) (n / 2)
def wU:Nat->List (Nat->Nat->YOp R)->List (YOp R)|_,[]=>[]|0,f::l=>f 0 0::wU 1 l|k+1,f::l=>f (k+1) k::wU (k+2) l
def wn(d:Nat)(l:List (Nat->Nat->YOp R)):List (Option (Nat×Bool)×YOp R):=qn (wU d l)
def wf(g d:Nat)(l:List (Nat->Nat->YOp R)):List (Option (Nat×Bool)×YOp R):=qf g (wU d l)
def wt(g d:Nat)(l:List (Nat->Nat->YOp R)):List (Option (Nat×Bool)×YOp R):=qt g (wU d l)
def w1(d:Nat)(l:List (Nat->Nat->YOp R))(E9:List Nat):HD R:=q1 (wU d l) E9
def sw(d:Nat)(l:List (Nat->Nat->YOp R))(E9:List Nat)(b:HD R):HD R:=.seq (q1 (wU d l) E9) b
def sq(l:List (YOp R))(E9:List Nat)(b:HD R):HD R:=.seq (q1 l E9) b
def sr(l:List (List (Option (Nat×Bool)×YOp R)))(E9:List Nat)(b:HD R):HD R:=.seq (qr l E9) b
def wm(s d _p:Nat):YOp R:=.mv d (.tmp s)
def wM(d p:Nat):YOp R:=.mv d (.tmp p)
def wo(o s d _p:Nat):YOp R:=.fa d o (.tmp s)
def wO(o d p:Nat):YOp R:=.fa d o (.tmp p)
def wl(s d _p:Nat):YOp R:=.ld d none (.tmp s)
def wL(d p:Nat):YOp R:=.ld d none (.tmp p)
def wk(n s d _p:Nat):YOp R:=.ld d (some n) (.tmp s)
def wK(n d p:Nat):YOp R:=.ld d (some n) (.tmp p)
def wz(s d _p:Nat):YOp R:=.len d (.tmp s)
def wZ(d p:Nat):YOp R:=.len d (.tmp p)
def wx(s d _p:Nat):YOp R:=.un d .not (.tmp s)
def wX(d p:Nat):YOp R:=.un d .not (.tmp p)
def wb(o:BinOp)(x y d _p:Nat):YOp R:=.bin d .num o (.tmp x) (.tmp y)
def wB(o:BinOp)(x d p:Nat):YOp R:=.bin d .num o (.tmp x) (.tmp p)
def wi(o:BinOp)(x:Nat)(n:Int)(d _p:Nat):YOp R:=.bin d .num o (.tmp x) (.k (.int .i64 n))
def wI(o:BinOp)(n:Int)(d p:Nat):YOp R:=.bin d .num o (.tmp p) (.k (.int .i64 n))
def wr(c x d _p:Nat):YOp R:=.pick d (.tmp c) (.k (.bool true)) (.tmp x)
def wR(c d p:Nat):YOp R:=.pick d (.tmp c) (.k (.bool true)) (.tmp p)
def wq(c x d _p:Nat):YOp R:=.pick d (.tmp c) (.tmp x) (.k (.bool false))
def wQ(c d p:Nat):YOp R:=.pick d (.tmp c) (.tmp p) (.k (.bool false))
def we(c:C)(x i d _p:Nat):YOp R:=.ia d c (.tmp x) (.tmp i)
def wE(c:C)(x d p:Nat):YOp R:=.ia d c (.tmp x) (.tmp p)
def wc(g:GF)(hf:([]:List Nat).map (λn=>(R[n]?).map GF.x)=(fX g.ps).map some)(l:List YO)(d _p:Nat):YOp R:=.call d g [] hf l
def wY(g:GF)(hf:([]:List Nat).map (λn=>(R[n]?).map GF.x)=(fX g.ps).map some)(d p:Nat):YOp R:=.call d g [] hf [.tmp p]
def wj(n:Int)(d _p:Nat):YOp R:=.mv d (.k (.int .i64 n))
def wh(f:Nat->YOp R)(d _p:Nat):YOp R:=f d
def Kp(n:Nat):List Nat:=kpF 300 0 n
def cv(n:Nat)(c:C):Bool×Nat×Sh×List AL:=(false,n,.one,[.val c none])
def ca(n:Nat)(c:C):Bool×Nat×Sh×List AL:=(false,n,.agg,[.val c none])
def cx(n:Nat)(c:C):Bool×Nat×Sh×List AL:=(true,n,.one,[.val c none])
def cn(c:Nat)(ke:List Nat)(t:HD R):HD R:=.cond c [] ke t .skip
def ce(c:Nat)(kt ke:List Nat)(id:Nat):HD R:=.cond c kt ke .skip (.exit id)
def bl(id:Nat)(c:Cut)(b:HD R):HD R:=.block id (.loop c b)
end
end Y
end Lv
namespace Lv
open Go
section
variable{A:Nat->Nat->List Md->Prop}{P:Program}
def fnd(n:Nat)(ms:List Md):List (Nat×CN)->Option CN
 | []=>none|p::r=>match Nat.beq p.1 n&&decide (E2 p.2=ms) with|true=>some p.2|false=>fnd n ms r
theorem uV {n ms x}:∀{r:List (Nat×CN)},fnd n ms r=some x->(n,x)∈r
 | [],h=>by cases h
 |(k,y)::r,h=>by
  unfold fnd at h;split at h
  .rename_i j;cases h;rw[AF]at j;have q:k=n:=Ey j.1;subst q;exact BJ
  .exact Ae _ (uV h)
theorem Mt.at{r:List (Nat×CN)} {n x} (h:∀p∈r,Mt A P p.1 p.2) (e:fnd n (E2 x) r=some x):Mt A P n x:=h _ (uV e)
def caO(P:Program)(p:Nat×CN):List (Nat×CN):=match P.funcs[p.1]? with|some fn=>AHW fn p.2|none=>[]
def okO(P:Program)(p:Nat×CN):Bool:=match P.funcs[p.1]? with|some fn=>AWE P fn p.2|none=>false
def okM(P:Program):List (Nat×CN)->Bool| []=>true|p::l=>okO P p&&okM P l
def caM(P:Program):List (Nat×CN)->List (List (Nat×CN))| []=>[]|p::l=>caO P p::caM P l
def ex1(r:List (Nat×CN))(q:Nat×CN):Nat×CN:=match fnd q.1 (E2 q.2) r with|some x=>(q.1,x)|none=>(q.1+1,q.2)
def exM(P:Program):List (Nat×CN)->List (Nat×CN)->List (List (Nat×CN))| [],_=>[]|p::l,r=>(caO P p).map (ex1 r)::exM P l (p::r)
theorem AKA{α:Type}{f:α->α}:∀{l:List α},l=l.map f->∀x∈l,x=f x
 |a::l,h,x,j=>by
  injection h with q y;rcases Ad.1 j with rfl|j
  .exact q
  .exact AKA y x j
theorem Mt.s:∀{l r:List (Nat×CN)},(∀p∈r,Mt A P p.1 p.2)->okM P l=true->caM P l=exM P l r->∀p∈l.reverseAux r,Mt A P p.1 p.2
 | [],_,h,_,_=>h|p::l,r,h,G,J=>by
  unfold okM at G;unfold caM exM at J;rw[AF]at G;obtain⟨y,L⟩:=G;injection J with j B;refine Mt.s (l:=l) (r:=p::r) (λq H=>?_) L B;rcases Ad.1 H with rfl|H
  .unfold okO at y;unfold caO at j;cases E:P.funcs[q.1]? with
   |none=>simp[E]at y|some fn=>
    simp only[E]at y j;refine Mt.by E y rfl λt O=>?_
    have e:=AKA j t O;unfold ex1 at e;cases I:fnd t.1 (E2 t.2) r with
    |none=>
     rw[I]at e;have:=congrArg Prod.fst e;simp at this
    |some x=>
     rw[I]at e;rw[e];exact h _ (uV I)
  .exact h q H
def lX(l:List (Nat×GF)):List (Nat×CN):=l.map λp=>(p.1,p.2.x)
end
end Lv
