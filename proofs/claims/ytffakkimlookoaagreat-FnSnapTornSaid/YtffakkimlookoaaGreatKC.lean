/-
  Printed: functions of the program as texts of the typed machine, as plain functions, and that the one is the other.
-/
import Derived.Test.YtffakkimlookoaaGreatKB
import Derived.KernelRfl
set_option linter.unusedVariables false
set_option linter.unusedSimpArgs false
set_option maxRecDepth 100000
namespace Lv
open Go (IntKind BinOp UnOp)
open Y (YF qn qf qt qr q1 qd qm qa qo ql qL qb qi qx qp qq qc qz qe qk qK qB qw qu qj Kp wn wf wt w1 sw sq sr wm wM wo wO wl wL wk wK wz wZ wx wX wb wB wi wI wr wR wq wQ we wE wc wY wj wh cv ca cx cn ce bl)
noncomputable def Dr(p1:Int)(v2:Int)(v3:Int)(x5:UInt8)(v6:Bool):Option (Int×Int×Bool):=
 br v6
  (some (0,0,false))
  (some ((orI v2 (W7 ((w64 (↑(UInt8.toNat x5):Int)).tmod 128) (w64 (7*v3))),w64 (w64 (p1+v3)+1),true)))
noncomputable def Dq(p0:(List UInt8))(p1:Int)(L1:(Int×Int)->Option (Int×Int×Bool))(v2:Int)(v3:Int)(v4:Bool):Option (Int×Int×Bool):=
 br v4
  (some (0,0,false))
  (bd (at? p0 (w64 (p1+v3))) fun x5=>
  gd (¬w64 (7*v3)<0) (
  br (decide (w64 (↑(UInt8.toNat x5):Int)<128))
   (br (decide (v3>0))
    (br (w64 (↑(UInt8.toNat x5):Int)==0)
     (jn (Dr p1 v2 v3 x5) true)
     (jn (Dr p1 v2 v3 x5) (decide (orI v2 (W7 ((w64 (↑(UInt8.toNat x5):Int)).tmod 128) (w64 (7*v3)))>2147483647))))
    (jn (Dr p1 v2 v3 x5) (decide (orI v2 (W7 ((w64 (↑(UInt8.toNat x5):Int)).tmod 128) (w64 (7*v3)))>2147483647))))
   (L1 ((orI v2 (W7 ((w64 (↑(UInt8.toNat x5):Int)).tmod 128) (w64 (7*v3))),w64 (v3+1))))))
noncomputable def Ii(_:PUnit):Option (Int×Int×Bool):=
 some (0,0,false)
noncomputable def Cb(p0:(List UInt8))(p1:Int)(L1:(Int×Int)->Option (Int×Int×Bool))(x_:(Int×Int)):Option (Int×Int×Bool):=
 match x_ with
 |(v2,v3)=>br (decide (v3<5))
  (br (decide (p1<0))
   (jn (Dq p0 p1 L1 v2 v3) true)
   (jn (Dq p0 p1 L1 v2 v3) (decide (p1>=w64 ((↑p0.length:Int)-v3)))))
  (jn (Ii) ())
noncomputable def Ff(p0:(List UInt8))(p1:Int):Option (Int×Int×Bool):=
 AT (Cb p0 p1) big (0,0)
noncomputable def Hq(v5:(List Int)):Option ((List Int)×Bool):=
 some (v5,true)
noncomputable def Ef(p0:(List UInt8))(L1:((List Int)×Int)->Option ((List Int)×Bool))(x_:((List Int)×Int)):Option ((List Int)×Bool):=
 match x_ with
 |(v2,v3)=>br (decide (v3<(↑p0.length:Int)))
  (bd (Ff p0 v3) fun x4=>
  br (!x4.snd.snd)
   (some ([],false))
   (gd (List.length v2+[x4.fst].length<=lim) (
   L1 (v2++[x4.fst],x4.snd.fst))))
  (jn (Hq) v2)
noncomputable def Gs(p0:(List UInt8)):Option ((List Int)×Bool):=
 AT (Ef p0) big ([],0)
noncomputable def za:YF:=⟨[],[.v (.l .u),.v .i],[],.ret [.i,.i,.b],[.tmp 4,.tmp 5,.tmp 6],
 sq [qK 4 0,qK 5 0,qB 6 false] [0,1] (.seq (sw 10 [wm 1,wm 0,wZ,wI .sub 1,wc Af rfl [10,qj 0,13],wX] [0,1,15] (cn 15 [0,1] (sq [qK 4 0,qK 5 0,qB 6 false] (Kp 112) .ret))) (sq [qK 7 0] (Kp 131) (.join [] (sq [qK 8 0] (Kp 387) (bl 0 [cv 7 .i,cv 8 .i] (.seq (.join [cv 25 .b] (qr [wn 16 [wm 8,wI .lss 5,wM],
 wt 18 19 [wm 1,wm 8,wB .add 19,wm 0,wZ,wB .lss 21],
 qn [qq 25 18 24]] (Kp 33554819)) (ce 25 (Kp 387) [] 0)) (.seq (.block 1 (sr [wn 28 [wm 0,wm 1,wm 8,wB .add 29,wE .u 28,wL,wh (.cvI · .i64 (.tmp 33))],
 qn [qa 9 34]] (Kp 899) (sr [wn 35 [wm 7,wm 9,wI .rem 128,wm 8,wh (.bin · .num .mul (.k (.int .i64 7)) (.tmp 38)),wB .shl 37,wB .add 35],
 qn [qa 7 41]] (Kp 899) (sw 42 [wm 9,wI .lss 128] [0,1,7,8,43] (.cond 43 [1,7,8] (Kp 387) (.seq (sw 44 [wm 7,wY Ek rfl,wZ,wm 8,wI .add 1,wB .neq 46] [1,7,8,49] (cn 49 (Kp 386) (sq [qK 4 0,qK 5 0,qB 6 false] (Kp 112) .ret))) (sr [wn 50 [wm 7,wm 1,wm 8,wB .add 51,wI .add 1],
 qn [qa 4 50,qa 5 54,qB 6 true]] (Kp 112) .ret)) .skip))))) (qr [wn 26 [wm 8,wI .add 1],
 qn [qa 8 27]] (Kp 387)))))) (sq [qK 4 0,qK 5 0,qB 6 false] (Kp 112) .ret))))⟩
noncomputable def TX(_:PUnit):Option (Int×Int×Bool):=
 some (0,0,false)
noncomputable def PC(p0:(List UInt8))(p1:Int)(L2:(Int×Int)->Option (Int×Int×Bool))(v3:Int)(v4:Int)(v5:Bool):Option (Int×Int×Bool):=
 br v5
  (bd (at? p0 (w64 (p1+v4))) fun x6=>
  gd (¬w64 (7*v4)<0) (
  br (decide (w64 (↑(UInt8.toNat x6):Int)<128))
   (bd (Tt (w64 (v3+W7 ((w64 (↑(UInt8.toNat x6):Int)).tmod 128) (w64 (7*v4))))) fun x7=>
   br ((↑(List.length x7):Int) != w64 (v4+1))
    (some (0,0,false))
    (some ((w64 (v3+W7 ((w64 (↑(UInt8.toNat x6):Int)).tmod 128) (w64 (7*v4))),w64 (w64 (p1+v4)+1),true))))
   (L2 ((w64 (v3+W7 ((w64 (↑(UInt8.toNat x6):Int)).tmod 128) (w64 (7*v4))),w64 (v4+1))))))
  (jn (TX) ())
noncomputable def Kr(p0:(List UInt8))(p1:Int)(L2:(Int×Int)->Option (Int×Int×Bool))(x_:(Int×Int)):Option (Int×Int×Bool):=
 match x_ with
 |(v3,v4)=>br (decide (v4<5))
  (jn (PC p0 p1 L2 v3 v4) (decide (w64 (p1+v4)<(↑p0.length:Int))))
  (jn (PC p0 p1 L2 v3 v4) false)
noncomputable def dZ(p0:(List UInt8))(p1:Int):Option (Int×Int×Bool):=
 bd (Ce p1 0 (w64 ((↑p0.length:Int)-1))) fun x1=>
 br (!x1)
  (some (0,0,false))
  (AT (Kr p0 p1) big (0,0))
noncomputable def Ur:GF:=za.gf rfl rfl (fun a=>dZ a.1 a.2.1) (fun a=>by kernel_rfl)
noncomputable def zb:YF:=⟨[],[.v .s],[],.ret [(.l .i),.b],[.tmp 2,.tmp 3],
 sq [.as 2 (.k .nil),.Av [(.tmp 2 0,.i)],qB 3 false] [0] (sr [wn 10 [wm 0,wh (.Jb · (.tmp 10))],
 qn [qa 4 11]] [4] (sq [.as 5 (.k .nil),.Av [(.tmp 5 0,.i)]] [4,5] (.join [cv 5 (.l .i)] (sq [qK 6 0] (Kp 112) (bl 0 [cv 5 (.l .i),cv 6 .i] (.seq (sw 12 [wm 6,wm 4,wZ,wB .lss 12] (Kp 32880) (ce 15 (Kp 112) [5] 0)) (.block 1 (sr [wn 17 [wm 4,wm 6,wc Ur rfl [17,18]],
 qn [qm 16 19],
 wn 20 [wh (.ext · (.tmp 16) 0),wh (.ext · (.tmp 16) 1),wh (.ext · (.tmp 16) 2)],
 qn [qa 7 20,qa 8 21,qa 9 22]] (Kp 944) (.seq (sw 23 [wm 9,wX] (Kp 16777648) (cn 24 (Kp 432) (sq [.as 2 (.k .nil),.Av [(.tmp 2 0,.i)],qB 3 false] [2,3] .ret))) (sr [wn 25 [wm 5,wm 7,wh (.AW · 1 .i [(0,(.tmp 26))]),wh (.app · .i true (.tmp 25) (.tmp 27))],
 qn [qa 5 28]] (Kp 304) (q1 [qm 29 8,qa 6 29] (Kp 112))))))))) (sq [qm 30 5,qa 2 30,qB 3 true] [2,3] .ret))))⟩
noncomputable def da(v5:(List Int)):Option ((List Int)×Bool):=
 some (v5,true)
noncomputable def TY(p0:(List UInt8))(L1:((List Int)×Int)->Option ((List Int)×Bool))(x_:((List Int)×Int)):Option ((List Int)×Bool):=
 match x_ with
 |(v2,v3)=>br (decide (v3<(↑p0.length:Int)))
  (bd (dZ p0 v3) fun x4=>
  br (!x4.snd.snd)
   (some ([],false))
   (gd (List.length v2+[x4.fst].length<=lim) (
   L1 (v2++[x4.fst],x4.snd.fst))))
  (jn (da) v2)
noncomputable def mF(p0:(List UInt8)):Option ((List Int)×Bool):=
 AT (TY p0) big ([],0)
noncomputable def Ut:GF:=zb.gf rfl rfl (fun a=>mF a.1) (fun a=>by kernel_rfl)
noncomputable def zc:YF:=⟨[],[.v .i,.v .i],[],.ret [.i],[.tmp 4],
 sq [qK 4 0] [0,1] (.seq (sw 5 [wm 0,wm 1,wB .lss 5] (Kp 131) (.cond 7 [0] [1] (sq [qm 8 0,qa 4 8] [4] .ret) .skip)) (sq [qm 9 1,qa 4 9] [4] .ret))⟩
noncomputable def mG(p0:Int)(p1:Int):Option Int:=
 br (decide (p0<p1))
  (some p0)
  (some p1)
noncomputable def Ny:GF:=zc.gf rfl rfl (fun a=>mG a.1 a.2.1) (fun a=>by kernel_rfl)
noncomputable def zd:YF:=⟨[],[.v (.l .u)],[],.ret [.b],[.tmp 2],
 sq [qB 2 false] [0] (sr [wn 3 [wm 0,wZ,wI .gtr 1048576],
 qn [qa 2 5]] [2] .ret)⟩
noncomputable def db(p0:(List UInt8)):Option Bool:=
 some (decide ((↑p0.length:Int)>1048576))
noncomputable def Jl:GF:=zd.gf rfl rfl (fun a=>db a.1) (fun a=>by kernel_rfl)
noncomputable def ze:YF:=⟨[],[.v (.l .u)],[],.ptr 0 (.st 17),[.bx 2],
 sq [.as 2 (.k .np)] [0] (sr [wn 5 [wm 0,wZ,wh (.bin · .num .add (.k (.int .i64 28285)) (.tmp 6))],
 qn [qa 3 7]] [0,3] (.join [cv 3 .i] (sq [qK 4 0] (Kp 25) (bl 0 [cv 3 .i,cv 4 .i] (.seq (.join [cv 15 .b] (qr [wn 8 [wm 4,wm 0,wZ,wB .lss 8,wM],
 wt 12 13 [wm 4,wI .lss 4000],
 qn [qq 15 12 14]] (Kp 32793)) (ce 15 (Kp 25) [0,3] 0)) (.seq (.block 1 (qr [wn 18 [wm 3,wI .mul 131,wm 0,wm 4,wE .u 20,wL,wh (.cvI · .i64 (.tmp 23)),wB .add 19,wI .add 7,wI .and 1073741823],
 qn [qa 3 27]] (Kp 25))) (qr [wn 16 [wm 4,wI .add 1],
 qn [qa 4 17]] (Kp 25)))))) (sr [wn 28 [wm 0,wm 3,wh (.build · [.nil,.int .i64 0,.int .i64 0] [(0,1,(.tmp 28)),(2,1,(.tmp 29))])],
 qn [qu 31 30,qa 2 31]] [2] .ret)))⟩
noncomputable def dg(p0:(List UInt8))(v6:Int):Option AH:=
 some (AH.mk p0 0 v6)
noncomputable def TZ(p0:(List UInt8))(L1:(Int×Int)->Option AH)(v2:Int)(v3:Int)(v4:Bool):Option AH:=
 br v4
  (bd (at? p0 v3) fun x5=>
  L1 ((SG (w64 (w64 (w64 (v2*131)+w64 (↑(UInt8.toNat x5):Int))+7)) 1073741823,w64 (v3+1))))
  (jn (dg p0) v2)
noncomputable def dh(p0:(List UInt8))(L1:(Int×Int)->Option AH)(x_:(Int×Int)):Option AH:=
 match x_ with
 |(v2,v3)=>br (decide (v3<(↑p0.length:Int)))
  (jn (TZ p0 L1 v2 v3) (decide (v3<4000)))
  (jn (TZ p0 L1 v2 v3) false)
noncomputable def de(p0:(List UInt8)):Option AH:=
 AT (dh p0) big ((w64 (28285+(↑p0.length:Int)),0))
noncomputable def LF:GF:=ze.gf rfl rfl (fun a=>de a.1) (fun a=>by kernel_rfl)
noncomputable def zf:YF:=⟨[],[.b (.st 17)],[],.ret [.i],[.tmp 2],
 sq [qK 2 0] [0] (sr [wn 4 [wm 0,wm 0],
 qn [.chk 6 (.tmp 5)],
 wn 7 [wO 2,wL,wI .mul 6364136223846793005,wI .add 1442695040888963407],
 qn [.chk 11 (.tmp 4),qo 12 2 11,qw 1 12 10]] [0] (.seq (.A8 (qd 0 [qn [qm 13 0,.chk 14 (.tmp 13)],
 wn 15 [wO 2,wL,wh (.bin · .num .shr (.tmp 16) (.k (.int .u64 33))),wm 0],
 qn [.chk 19 (.tmp 18)],
 wn 20 [wO 2,wL,wh (.bin · .num .shr (.tmp 21) (.k (.int .u64 45))),wB .xor 17,wI .and 255],
 qn [qa 3 24]] .nil) [0,3]) (.join [cv 3 .i,(true,0,.one,[.val (.st 17) (some (.old 0))])] (.seq (.A8 (qd 0 [qn [qm 25 0,.chk 26 (.tmp 25)],
 wn 27 [wO 1,wL,wm 0],
 qn [.chk 30 (.tmp 29)],
 wn 31 [wO 0,wL,wZ,wB .lss 28]] .nil) [0,3,34]) (.cond 34 [0,3] [0,3] (.seq (.A8 (qd 0 [wn 35 [wm 3,wm 0],
 qn [.chk 37 (.tmp 36)],
 wn 38 [wO 0,wL,wm 0],
 qn [.chk 41 (.tmp 40)],
 wn 42 [wO 1,wL,wE .u 39,wL,wh (.cvI · .i64 (.tmp 45)),wB .add 35,wI .and 255],
 qn [qa 3 48]] .nil) [0,3]) (qr [wn 49 [wm 0,wm 0],
 qn [.chk 51 (.tmp 50)],
 wn 52 [wO 1,wL,wI .add 1],
 qn [.chk 55 (.tmp 49),qo 56 1 55,qw 1 56 54]] [0,3])) .skip)) (sq [qm 57 3,qa 2 57] [0,2] .ret))))⟩
noncomputable def Ta(x_:(Int×AH)):Option (Int×AH):=
 match x_ with
 |(v2,v3)=>some (v2,v3)
noncomputable def Re(p0:AH):Option (Int×AH):=
 br (decide (p0.i_<(↑p0.b_.length:Int)))
  (bd (at? p0.b_ p0.i_) fun x1=>
  jn (Ta) ((SG (w64 (SG (NA (BE (w64 (w64 (p0.h_*6364136223846793005)+1442695040888963407)) 33) (BE (w64 (w64 (p0.h_*6364136223846793005)+1442695040888963407)) 45)) 255+w64 (↑(UInt8.toNat x1):Int))) 255,AH.mk p0.b_ (w64 (p0.i_+1)) (w64 (w64 (p0.h_*6364136223846793005)+1442695040888963407)))))
  (jn (Ta) ((SG (NA (BE (w64 (w64 (p0.h_*6364136223846793005)+1442695040888963407)) 33) (BE (w64 (w64 (p0.h_*6364136223846793005)+1442695040888963407)) 45)) 255,AH.mk p0.b_ p0.i_ (w64 (w64 (p0.h_*6364136223846793005)+1442695040888963407)))))
noncomputable def G7:GF:=zf.gf rfl rfl (fun a=>Re a.1) (fun a=>by kernel_rfl)
noncomputable def zg:YF:=⟨[],[.b (.st 17),.v .i],[],.ret [.i],[.tmp 4],
 sq [qK 4 0] [0,1] (.seq (sw 9 [wm 1,wI .leq 0] (Kp 1027) (.cond 10 [0] [0,1] (sq [qK 4 0] [0,4] .ret) .skip)) (.seq (sw 11 [wm 1,wI .leq 256] (Kp 4099) (.cond 12 [0,1] [0,1] (sr [wn 13 [wm 0,wY G7 rfl,wm 1,wB .rem 14],
 qn [qa 4 16]] [0,4] .ret) .skip)) (sr [wn 17 [wm 0,wY G7 rfl],
 qn [qa 5 18]] (Kp 35) (sr [wn 19 [wm 0,wY G7 rfl],
 qn [qa 6 20]] (Kp 99) (sr [wn 21 [wm 0,wY G7 rfl],
 qn [qa 7 22]] (Kp 227) (sr [wn 23 [wm 0,wY G7 rfl],
 qn [qa 8 24]] (Kp 483) (sr [wn 25 [wm 5,wI .mul 16777216,wm 6,wI .mul 65536,wB .add 26,wm 7,wI .mul 256,wB .add 29,wm 8,wB .add 32,wm 1,wB .rem 34],
 qn [qa 4 36]] [0,4] .ret)))))))⟩
noncomputable def A3(p0:AH)(p1:Int):Option (Int×AH):=
 br (decide (p1<=0))
  (some (0,p0))
  (br (decide (p1<=256))
   (bd (Re p0) fun x1=>
   gd (p1≠0) (
   some (Int.tmod x1.fst p1,x1.snd)))
   (bd (Re p0) fun x2=>
   bd (Re x2.snd) fun x3=>
   bd (Re x3.snd) fun x4=>
   bd (Re x4.snd) fun x5=>
   gd (p1≠0) (
   some (((w64 (w64 (w64 (w64 (x2.fst*16777216)+w64 (x3.fst*65536))+w64 (x4.fst*256))+x5.fst)).tmod p1,x5.snd)))))
noncomputable def AQ:GF:=zg.gf rfl rfl (fun a=>A3 a.1 a.2.1) (fun a=>by kernel_rfl)
noncomputable def zh:YF:=⟨[],[.b (.st 17)],[],.ret [(.st 1)],[.cell 2 (some 9)],
 sq [.alloc 2 B2,.Av [(.cell 2 0,.i)]] [0,2] (sr [wn 6 [wm 0,wc AQ rfl [6,qj 5],wh (.bin · .num .add (.k (.int .i64 1)) (.tmp 7)),wm 0,wc AQ rfl [9,qj 9],wh (.bin · .num .add (.k (.int .i64 2)) (.tmp 10)),wm 0,wc AQ rfl [12,qj 6],wh (.bin · .num .add (.k (.int .i64 1)) (.tmp 13)),wm 0,wc AQ rfl [15,qj 5],wh (.bin · .num .add (.k (.int .i64 1)) (.tmp 16)),wm 0,wc AQ rfl [18,qj 4],wh (.bin · .num .add (.k (.int .i64 1)) (.tmp 19)),wm 0,wc AQ rfl [21,qj 4],wm 0,wc AQ rfl [23,qj 4],wh (.bin · .num .add (.k (.int .i64 1)) (.tmp 24)),wm 0,wc AQ rfl [26,qj 3],wh (.bin · .num .add (.k (.int .i64 1)) (.tmp 27)),wh (.build · B2 [(1,1,(.tmp 8)),(2,1,(.tmp 11)),(3,1,(.tmp 14)),(4,1,(.tmp 17)),(5,1,(.tmp 20)),(6,1,(.tmp 22)),(7,1,(.tmp 25)),(8,1,(.tmp 28))])],
 qn [.Av [(.tmp 29 0,.i)],.alloc 3 B2,.Av [(.cell 3 0,.i)],qw 9 3 29]] (Kp 13) (sr [wn 30 [wm 0,wc AQ rfl [30,qj 3],wh (.bin · .num .add (.k (.int .i64 1)) (.tmp 31))],
 qn [qa 4 32]] (Kp 29) (.join [(true,0,.one,[.val (.st 17) (some (.old 0))]),cx 3 (.st 1)] (sq [qK 5 0] (Kp 61) (bl 0 [cv 5 .i,(true,0,.one,[.val (.st 17) (some (.old 0))]),cx 3 (.st 1)] (.seq (sw 33 [wm 5,wm 4,wB .lss 33] (Kp 34359738429) (ce 35 [0,2,3,4,5] (Kp 13) 0)) (.seq (.block 1 (.A8 (qd 0 [wn 38 [wo 0 3,wL,wm 0]] (.op 3 none [38] (.call 41 AQ [] rfl [(.tmp 40),(.k (.int .i64 12))])
 (.op 4 none [] (.bin 42 .num .add (.k (.int .i64 2)) (.tmp 41))
 (.op 5 none [38] (.AW 43 1 .i [(0,(.tmp 42))])
 (qd 6 [wn 44 [wh (.app · .i true (.tmp 39) (.tmp 43)),wo 0 3],
 qn [qw 1 45 44]] .nil))))) [0,2,3,4,5])) (qr [wn 36 [wm 5,wI .add 1],
 qn [qa 5 37]] (Kp 61)))))) (sq [qL 46 9 3,qw 9 2 46] [0,2] .ret))))⟩
noncomputable def di(x_:(AH×AO)):Option (AO×AH):=
 match x_ with
 |(v15,v16)=>some (v16,v15)
noncomputable def dj(x9:(Int×AH))(L10:(Int×AH×AO)->Option (AO×AH))(x_:(Int×AH×AO)):Option (AO×AH):=
 match x_ with
 |(v11,v12,v13)=>br (decide (v11<w64 (1+x9.fst)))
  (bd (A3 v12 12) fun x14=>
  gd (v13.AM.length+[w64 (2+x14.fst)].length<=lim) (
  L10 ((w64 (v11+1),x14.snd,AO.mk (v13.AM++[w64 (2+x14.fst)]) v13.BG v13.Room v13.As v13.A2 v13.Ax v13.Rest v13.BA v13.Bd))))
  (jn (di) (v12,v13))
noncomputable def mH(p0:AH):Option (AO×AH):=
 bd (A3 p0 5) fun x1=>
 bd (A3 x1.snd 9) fun x2=>
 bd (A3 x2.snd 6) fun x3=>
 bd (A3 x3.snd 5) fun x4=>
 bd (A3 x4.snd 4) fun x5=>
 bd (A3 x5.snd 4) fun x6=>
 bd (A3 x6.snd 4) fun x7=>
 bd (A3 x7.snd 3) fun x8=>
 bd (A3 x8.snd 3) fun x9=>
 AT (dj x9) big ((0,x9.snd,AO.mk [] (w64 (1+x1.fst)) (w64 (2+x2.fst)) (w64 (1+x3.fst)) (w64 (1+x4.fst)) (w64 (1+x5.fst)) x6.fst (w64 (1+x7.fst)) (w64 (1+x8.fst))))
noncomputable def Nz:GF:=zh.gf rfl rfl (fun a=>mH a.1) (fun a=>by kernel_rfl)
noncomputable def AAQ:YF:=⟨[],[.b (.st 17),.v .i],[],.ret [.b],[.tmp 4],
 sq [qB 4 false] [0,1] (sr [wn 5 [wm 0,wm 1,wc AQ rfl [5,6],wI .eql 0],
 qn [qa 4 8]] [0,4] .ret)⟩
noncomputable def KN(p0:AH)(p1:Int):Option (Bool×AH):=
 bd (A3 p0 p1) fun x1=>
 some (x1.fst==0,x1.snd)
noncomputable def Bk:GF:=AAQ.gf rfl rfl (fun a=>KN a.1 a.2.1) (fun a=>by kernel_rfl)
noncomputable def AAR:YF:=⟨[],[.b (.st 17),.v (.st 1),.v .i],[],.ret [(.st 2)],[.cell 6 (some 10)],
 sq [qu 4 1,.alloc 6 BM] (Kp 85) (.seq (.A8 (.op 0 none [] (.mv 8 (.tmp 0))
 (qd 3 [wn 11 [wm 0,wo 0 4,wL,wZ]] (qd 8 [wn 16 [wm 0,wo 3 4,wL]] (qd 13 [wn 21 [wm 0,wo 1 4,wL]] (.op 17 none [] (.mv 25 (.tmp 0))
 (qd 20 [wn 28 [wm 0,wo 7 4,wL]] (.both 0 (.op 1 none [12,17,22,29] (.call 9 AQ [] rfl [(.tmp 8),(.k (.int .i64 12))])
 (.op 2 none [] (.bin 10 .num .add (.k (.int .i64 1)) (.tmp 9))
 (.both 0 (.op 7 none [17,22,29] (.call 15 AQ [] rfl [(.tmp 11),(.tmp 14)])
 (.both 0 (.op 11 none [22,29] (.call 19 AQ [] rfl [(.tmp 16),(.tmp 18)])
 (.op 12 none [] (.bin 20 .num .add (.k (.int .i64 1)) (.tmp 19))
 (.both 0 (.op 16 none [29] (.call 24 AQ [] rfl [(.tmp 21),(.tmp 23)])
 (.both 0 (.op 18 none [29] (.call 26 AQ [] rfl [(.tmp 25),(.k (.int .i64 40))])
 (.op 19 none [] (.bin 27 .num .add (.k (.int .i64 1)) (.tmp 26))
 (.both 0 (qd 23 [wn 31 [wc AQ rfl [28,30],wh (.build · BM [(0,1,(.tmp 10)),(1,1,(.tmp 15)),(2,1,(.k (.int .i64 (-1)))),(3,1,(.tmp 20)),(4,1,(.tmp 24)),(6,1,(.tmp 27)),(7,1,(.k (.int .i64 1))),(9,1,(.tmp 31))])]] (.op 25 none [12,17,22,29] (.alloc 7 BM)
 (.op 26 none [] (.st 10 (.tmp 7) (.tmp 32))
 .nil))) (.op 25 none [12,17,22,29] (.alloc 7 BM)
 (qd 23 [wn 31 [wc AQ rfl [28,30],wh (.build · BM [(0,1,(.tmp 10)),(1,1,(.tmp 15)),(2,1,(.k (.int .i64 (-1)))),(3,1,(.tmp 20)),(4,1,(.tmp 24)),(6,1,(.tmp 27)),(7,1,(.k (.int .i64 1))),(9,1,(.tmp 31))])]] (.op 26 none [] (.st 10 (.tmp 7) (.tmp 32))
 .nil)))))) (.op 25 none [12,17,22,29] (.alloc 7 BM)
 (.op 18 none [29] (.call 26 AQ [] rfl [(.tmp 25),(.k (.int .i64 40))])
 (.op 19 none [] (.bin 27 .num .add (.k (.int .i64 1)) (.tmp 26))
 (qd 23 [wn 31 [wc AQ rfl [28,30],wh (.build · BM [(0,1,(.tmp 10)),(1,1,(.tmp 15)),(2,1,(.k (.int .i64 (-1)))),(3,1,(.tmp 20)),(4,1,(.tmp 24)),(6,1,(.tmp 27)),(7,1,(.k (.int .i64 1))),(9,1,(.tmp 31))])]] (.op 26 none [] (.st 10 (.tmp 7) (.tmp 32))
 .nil))))))) (.op 25 none [12,17,22,29] (.alloc 7 BM)
 (.op 16 none [29] (.call 24 AQ [] rfl [(.tmp 21),(.tmp 23)])
 (.op 18 none [29] (.call 26 AQ [] rfl [(.tmp 25),(.k (.int .i64 40))])
 (.op 19 none [] (.bin 27 .num .add (.k (.int .i64 1)) (.tmp 26))
 (qd 23 [wn 31 [wc AQ rfl [28,30],wh (.build · BM [(0,1,(.tmp 10)),(1,1,(.tmp 15)),(2,1,(.k (.int .i64 (-1)))),(3,1,(.tmp 20)),(4,1,(.tmp 24)),(6,1,(.tmp 27)),(7,1,(.k (.int .i64 1))),(9,1,(.tmp 31))])]] (.op 26 none [] (.st 10 (.tmp 7) (.tmp 32))
 .nil))))))))) (.op 25 none [12,17,22,29] (.alloc 7 BM)
 (.op 11 none [22,29] (.call 19 AQ [] rfl [(.tmp 16),(.tmp 18)])
 (.op 12 none [] (.bin 20 .num .add (.k (.int .i64 1)) (.tmp 19))
 (.op 16 none [29] (.call 24 AQ [] rfl [(.tmp 21),(.tmp 23)])
 (.op 18 none [29] (.call 26 AQ [] rfl [(.tmp 25),(.k (.int .i64 40))])
 (.op 19 none [] (.bin 27 .num .add (.k (.int .i64 1)) (.tmp 26))
 (qd 23 [wn 31 [wc AQ rfl [28,30],wh (.build · BM [(0,1,(.tmp 10)),(1,1,(.tmp 15)),(2,1,(.k (.int .i64 (-1)))),(3,1,(.tmp 20)),(4,1,(.tmp 24)),(6,1,(.tmp 27)),(7,1,(.k (.int .i64 1))),(9,1,(.tmp 31))])]] (.op 26 none [] (.st 10 (.tmp 7) (.tmp 32))
 .nil)))))))))) (.op 25 none [12,17,22,29] (.alloc 7 BM)
 (.op 7 none [17,22,29] (.call 15 AQ [] rfl [(.tmp 11),(.tmp 14)])
 (.op 11 none [22,29] (.call 19 AQ [] rfl [(.tmp 16),(.tmp 18)])
 (.op 12 none [] (.bin 20 .num .add (.k (.int .i64 1)) (.tmp 19))
 (.op 16 none [29] (.call 24 AQ [] rfl [(.tmp 21),(.tmp 23)])
 (.op 18 none [29] (.call 26 AQ [] rfl [(.tmp 25),(.k (.int .i64 40))])
 (.op 19 none [] (.bin 27 .num .add (.k (.int .i64 1)) (.tmp 26))
 (qd 23 [wn 31 [wc AQ rfl [28,30],wh (.build · BM [(0,1,(.tmp 10)),(1,1,(.tmp 15)),(2,1,(.k (.int .i64 (-1)))),(3,1,(.tmp 20)),(4,1,(.tmp 24)),(6,1,(.tmp 27)),(7,1,(.k (.int .i64 1))),(9,1,(.tmp 31))])]] (.op 26 none [] (.st 10 (.tmp 7) (.tmp 32))
 .nil)))))))))))) (.op 25 none [12,17,22,29] (.alloc 7 BM)
 (.op 1 none [12,17,22,29] (.call 9 AQ [] rfl [(.tmp 8),(.k (.int .i64 12))])
 (.op 2 none [] (.bin 10 .num .add (.k (.int .i64 1)) (.tmp 9))
 (.op 7 none [17,22,29] (.call 15 AQ [] rfl [(.tmp 11),(.tmp 14)])
 (.op 11 none [22,29] (.call 19 AQ [] rfl [(.tmp 16),(.tmp 18)])
 (.op 12 none [] (.bin 20 .num .add (.k (.int .i64 1)) (.tmp 19))
 (.op 16 none [29] (.call 24 AQ [] rfl [(.tmp 21),(.tmp 23)])
 (.op 18 none [29] (.call 26 AQ [] rfl [(.tmp 25),(.k (.int .i64 40))])
 (.op 19 none [] (.bin 27 .num .add (.k (.int .i64 1)) (.tmp 26))
 (qd 23 [wn 31 [wc AQ rfl [28,30],wh (.build · BM [(0,1,(.tmp 10)),(1,1,(.tmp 15)),(2,1,(.k (.int .i64 (-1)))),(3,1,(.tmp 20)),(4,1,(.tmp 24)),(6,1,(.tmp 27)),(7,1,(.k (.int .i64 1))),(9,1,(.tmp 31))])]] (.op 26 none [] (.st 10 (.tmp 7) (.tmp 32))
 .nil)))))))))))))))))) [0,2,4,6,7]) (.join [(true,0,.one,[.val (.st 17) (some (.old 0))]),cx 7 (.st 2)] (sw 33 [wm 2,wc Az rfl [33,qj 0,qj 10000000]] (Kp 17179869397) (.cond 34 [0,2,4,6,7] (Kp 209) (sr [wn 35 [wm 0,wm 2,wI .add 1,wc AQ rfl [35,37],wo 5 7],
 qn [qw 1 39 38]] (Kp 213) (.join [(true,0,.one,[.val (.st 17) (some (.old 0))]),cx 7 (.st 2)] (sw 40 [wm 0,wc Bk rfl [40,qj 3]] (Kp 2199023255765) (.cond 41 [0,2,4,6,7] (Kp 213) (qr [wn 42 [wm 0,wm 2,wo 6 4,wL,wB .add 43,wI .add 1,wc AQ rfl [42,47],wo 8 7],
 qn [qw 1 49 48]] (Kp 213)) .skip)) (sw 50 [wm 0,wc Bk rfl [50,qj 3]] [0,2,4,6,7,51] (.cond 51 [0,2,4,6,7] (Kp 209) (sq [qo 52 7 7,.st 1 (.tmp 52) (.k (.int .i64 2))] (Kp 213) (qr [wn 53 [wm 0,wm 2,wo 5 4,wL,wB .add 54,wc AQ rfl [53,57],wh (.bin · .num .add (.k (.int .i64 1)) (.tmp 58)),wo 8 7],
 qn [qw 1 60 59]] (Kp 209))) .skip)))) .skip)) (.join [(true,0,.one,[.val (.st 17) (some (.old 0))]),cx 7 (.st 2)] (sw 61 [wm 0,wc Bk rfl [61,qj 4]] [0,4,6,7,62] (.cond 62 [0,4,6,7] (Kp 193) (qr [wn 63 [wm 0,wo 0 4,wL,wZ,wc AQ rfl [63,66],wo 2 7],
 qn [qw 1 68 67]] (Kp 193)) .skip)) (sq [qL 69 10 7,qw 10 6 69] [0,6] .ret))))⟩
noncomputable def UD(x_:(AH×AI)):Option (AI×AH):=
 match x_ with
 |(v40,v41)=>some (v41,v40)
noncomputable def Kw(p1:AO)(x_:(AH×AI)):Option (AI×AH):=
 match x_ with
 |(v36,v37)=>bd (KN v36 4) fun x38=>
 br x38.fst
  (bd (A3 x38.snd (↑p1.AM.length:Int)) fun x39=>
  jn (UD) (x39.snd,AI.mk v37.Id v37.A4 x39.fst v37.As v37.CX v37.Since v37.Ah v37.State v37.BW v37.CA))
  (jn (UD) (x38.snd,v37))
noncomputable def PQ(p1:AO)(p2:Int)(x_:(AH×AI)):Option (AI×AH):=
 match x_ with
 |(v32,v33)=>bd (KN v32 3) fun x34=>
 br x34.fst
  (bd (A3 x34.snd (w64 (p2+p1.Ax))) fun x35=>
  jn (Kw p1) ((x35.snd,AI.mk v33.Id v33.A4 v33.CB v33.As v33.CX v33.Since v33.Ah 2 (w64 (1+x35.fst)) v33.CA)))
  (jn (Kw p1) (x34.snd,v33))
noncomputable def eT(p0:AH)(p1:AO)(p2:Int):Option (AI×AH):=
 bd (A3 p0 12) fun x1=>
 bd (A3 x1.snd (↑p1.AM.length:Int)) fun x2=>
 bd (A3 x2.snd p1.As) fun x3=>
 bd (A3 x3.snd p1.BG) fun x4=>
 bd (A3 x4.snd 40) fun x5=>
 bd (A3 x5.snd p1.BA) fun x6=>
 bd (A3 x5.snd p1.BA) fun x7=>
 eqv x6.fst x7.fst (
 ev8 (w64 (1+x1.fst)) x2.fst ((-1):Int) (w64 (1+x3.fst)) x4.fst (0:Int) (w64 (1+x5.fst)) (1:Int) (
 eqv (α:=Int) 0 0 (
 eqv x6.fst x7.fst (
 IA x6.snd x7.snd (
 ev8 (w64 (1+x1.fst)) x2.fst ((-1):Int) (w64 (1+x3.fst)) x4.fst (0:Int) (w64 (1+x5.fst)) (1:Int) (
 eqv (α:=Int) 0 0 (
 eqv x6.fst x7.fst (
 bd (A3 x4.snd 40) fun x8=>
 bd (A3 x8.snd p1.BA) fun x9=>
 eqv x5.fst x8.fst (
 eqv (w64 (1+x5.fst)) (w64 (1+x8.fst)) (
 eqv x6.fst x9.fst (
 ev6 (w64 (1+x1.fst)) x2.fst ((-1):Int) (w64 (1+x3.fst)) x4.fst (0:Int) (
 eqv (w64 (1+x5.fst)) (w64 (1+x8.fst)) (
 ev2 (1:Int) (0:Int) (
 eqv x6.fst x9.fst (
 IA x6.snd x9.snd (
 ev6 (w64 (1+x1.fst)) x2.fst ((-1):Int) (w64 (1+x3.fst)) x4.fst (0:Int) (
 eqv (w64 (1+x5.fst)) (w64 (1+x8.fst)) (
 ev2 (1:Int) (0:Int) (
 eqv x6.fst x9.fst (
 bd (A3 x3.snd p1.BG) fun x10=>
 bd (A3 x10.snd 40) fun x11=>
 bd (A3 x11.snd p1.BA) fun x12=>
 eqv x4.fst x10.fst (
 eqv x5.fst x11.fst (
 eqv (w64 (1+x5.fst)) (w64 (1+x11.fst)) (
 eqv x6.fst x12.fst (
 ev4 (w64 (1+x1.fst)) x2.fst ((-1):Int) (w64 (1+x3.fst)) (
 eqv x4.fst x10.fst (
 eqv (α:=Int) 0 0 (
 eqv (w64 (1+x5.fst)) (w64 (1+x11.fst)) (
 ev2 (1:Int) (0:Int) (
 eqv x6.fst x12.fst (
 IA x6.snd x12.snd (
 ev4 (w64 (1+x1.fst)) x2.fst ((-1):Int) (w64 (1+x3.fst)) (
 eqv x4.fst x10.fst (
 eqv (α:=Int) 0 0 (
 eqv (w64 (1+x5.fst)) (w64 (1+x11.fst)) (
 ev2 (1:Int) (0:Int) (
 eqv x6.fst x12.fst (
 bd (A3 x2.snd p1.As) fun x13=>
 bd (A3 x13.snd p1.BG) fun x14=>
 bd (A3 x14.snd 40) fun x15=>
 bd (A3 x15.snd p1.BA) fun x16=>
 eqv x3.fst x13.fst (
 eqv (w64 (1+x3.fst)) (w64 (1+x13.fst)) (
 eqv x4.fst x14.fst (
 eqv x5.fst x15.fst (
 eqv (w64 (1+x5.fst)) (w64 (1+x15.fst)) (
 eqv x6.fst x16.fst (
 ev3 (w64 (1+x1.fst)) x2.fst ((-1):Int) (
 eqv (w64 (1+x3.fst)) (w64 (1+x13.fst)) (
 eqv x4.fst x14.fst (
 eqv (α:=Int) 0 0 (
 eqv (w64 (1+x5.fst)) (w64 (1+x15.fst)) (
 ev2 (1:Int) (0:Int) (
 eqv x6.fst x16.fst (
 IA x6.snd x16.snd (
 ev3 (w64 (1+x1.fst)) x2.fst ((-1):Int) (
 eqv (w64 (1+x3.fst)) (w64 (1+x13.fst)) (
 eqv x4.fst x14.fst (
 eqv (α:=Int) 0 0 (
 eqv (w64 (1+x5.fst)) (w64 (1+x15.fst)) (
 ev2 (1:Int) (0:Int) (
 eqv x6.fst x16.fst (
 bd (A3 x1.snd (↑p1.AM.length:Int)) fun x17=>
 bd (A3 x17.snd p1.As) fun x18=>
 bd (A3 x18.snd p1.BG) fun x19=>
 bd (A3 x19.snd 40) fun x20=>
 bd (A3 x20.snd p1.BA) fun x21=>
 eqv x2.fst x17.fst (
 eqv x3.fst x18.fst (
 eqv (w64 (1+x3.fst)) (w64 (1+x18.fst)) (
 eqv x4.fst x19.fst (
 eqv x5.fst x20.fst (
 eqv (w64 (1+x5.fst)) (w64 (1+x20.fst)) (
 eqv x6.fst x21.fst (
 eqv (w64 (1+x1.fst)) (w64 (1+x1.fst)) (
 eqv x2.fst x17.fst (
 eqv (α:=Int) (-1) (-1) (
 eqv (w64 (1+x3.fst)) (w64 (1+x18.fst)) (
 eqv x4.fst x19.fst (
 eqv (α:=Int) 0 0 (
 eqv (w64 (1+x5.fst)) (w64 (1+x20.fst)) (
 ev2 (1:Int) (0:Int) (
 eqv x6.fst x21.fst (
 IA x6.snd x21.snd (
 eqv (w64 (1+x1.fst)) (w64 (1+x1.fst)) (
 eqv x2.fst x17.fst (
 eqv (α:=Int) (-1) (-1) (
 eqv (w64 (1+x3.fst)) (w64 (1+x18.fst)) (
 eqv x4.fst x19.fst (
 eqv (α:=Int) 0 0 (
 eqv (w64 (1+x5.fst)) (w64 (1+x20.fst)) (
 ev2 (1:Int) (0:Int) (
 eqv x6.fst x21.fst (
 bd (A3 p0 12) fun x22=>
 bd (A3 x22.snd (↑p1.AM.length:Int)) fun x23=>
 bd (A3 x23.snd p1.As) fun x24=>
 bd (A3 x24.snd p1.BG) fun x25=>
 bd (A3 x25.snd 40) fun x26=>
 bd (A3 x26.snd p1.BA) fun x27=>
 eqv x1.fst x22.fst (
 eqv (w64 (1+x1.fst)) (w64 (1+x22.fst)) (
 eqv x2.fst x23.fst (
 eqv x3.fst x24.fst (
 eqv (w64 (1+x3.fst)) (w64 (1+x24.fst)) (
 eqv x4.fst x25.fst (
 eqv x5.fst x26.fst (
 eqv (w64 (1+x5.fst)) (w64 (1+x26.fst)) (
 eqv x6.fst x27.fst (
 eqv (w64 (1+x1.fst)) (w64 (1+x22.fst)) (
 eqv x2.fst x23.fst (
 eqv (α:=Int) (-1) (-1) (
 eqv (w64 (1+x3.fst)) (w64 (1+x24.fst)) (
 eqv x4.fst x25.fst (
 eqv (α:=Int) 0 0 (
 eqv (w64 (1+x5.fst)) (w64 (1+x26.fst)) (
 ev2 (1:Int) (0:Int) (
 eqv x6.fst x27.fst (
 IA x6.snd x27.snd (
 eqv (w64 (1+x1.fst)) (w64 (1+x22.fst)) (
 eqv x2.fst x23.fst (
 eqv (α:=Int) (-1) (-1) (
 eqv (w64 (1+x3.fst)) (w64 (1+x24.fst)) (
 eqv x4.fst x25.fst (
 eqv (α:=Int) 0 0 (
 eqv (w64 (1+x5.fst)) (w64 (1+x26.fst)) (
 ev2 (1:Int) (0:Int) (
 eqv x6.fst x27.fst (
 bd (CY p2 0 10000000) fun x28=>
 br x28
  (bd (A3 x6.snd (w64 (p2+1))) fun x29=>
  bd (KN x29.snd 3) fun x30=>
  br x30.fst
   (bd (A3 x30.snd (w64 (w64 (p2+p1.Rest)+1))) fun x31=>
   jn (PQ p1 p2) ((x31.snd,AI.mk (w64 (1+x1.fst)) x2.fst (-1) (w64 (1+x3.fst)) x4.fst x29.fst (w64 (1+x5.fst)) 1 x31.fst x6.fst)))
   (jn (PQ p1 p2) ((x30.snd,AI.mk (w64 (1+x1.fst)) x2.fst (-1) (w64 (1+x3.fst)) x4.fst x29.fst (w64 (1+x5.fst)) 1 0 x6.fst))))
  (jn (Kw p1) ((x6.snd,AI.mk (w64 (1+x1.fst)) x2.fst (-1) (w64 (1+x3.fst)) x4.fst 0 (w64 (1+x5.fst)) 1 0 x6.fst)))))))))))))))))))))))))))))))))))))))))))))))))))))))))))))))))))))))))))))))))))))))))))))))))))))))))))))))))))
noncomputable def IJ:GF:=AAR.gf rfl rfl (fun a=>eT a.1 a.2.1 a.2.2.1) (fun a=>by kernel_rfl)
noncomputable def AAS:YF:=⟨[],[.v (.l (.st 2)),.v .i],[],.ret [.i],[.tmp 4],
 sq [qK 4 0] [0,1] (.join [] (sq [qK 5 0] (Kp 35) (bl 0 [cv 5 .i] (.seq (sw 6 [wM,wm 0,wZ,wB .lss 6] (Kp 547) (ce 9 (Kp 35) [] 0)) (.seq (.block 1 (sw 12 [wm 0,wm 5,wE (.st 2) 12,wO 0,wL,wm 1,wB .eql 16] (Kp 262179) (.cond 18 [5] (Kp 35) (sq [qm 19 5,qa 4 19] [4] .ret) .skip))) (qr [wn 10 [wm 5,wI .add 1],
 qn [qa 5 11]] (Kp 35)))))) (sq [qK 4 (-1)] [4] .ret))⟩
noncomputable def eV(_:PUnit):Option Int:=
 some (-1)
noncomputable def eW(p0:(List AI))(p1:Int)(L1:Int->Option Int)(v2:Int):Option Int:=
 br (decide (v2<(↑p0.length:Int)))
  (bd (at? p0 v2) fun x3=>
  br (x3.Id==p1)
   (some v2)
   (L1 (w64 (v2+1))))
  (jn (eV) ())
noncomputable def eU(p0:(List AI))(p1:Int):Option Int:=
 AT (eW p0 p1) big 0
noncomputable def G9:GF:=AAS.gf rfl rfl (fun a=>eU a.1 a.2.1) (fun a=>by kernel_rfl)
noncomputable def AAT:YF:=⟨[],[.v (.st 8),.v (.st 2)],[],.ret [.b],[.tmp 4],
 sq [qu 2 0,qu 3 1,qB 4 false] [2,3] (.seq (.A8 (qd 1 [wn 8 [wo 11 2,wL]] (.op 4 none [] (.ld 11 (some 10) (.tmp 3))
 (.both 0 (.op 0 none [3,8] (.AW 7 0 (.st 2) [])
 (.both 0 (.op 3 none [3] (.app 10 (.st 2) true (.tmp 7) (.tmp 9))
 (.op 5 none [8] (.AW 12 1 (.st 2) [(0,(.tmp 11))])
 (qd 6 [qn [.app 13 (.st 2) true (.tmp 10) (.tmp 12),qa 5 13]] .nil))) (.op 5 none [8] (.AW 12 1 (.st 2) [(0,(.tmp 11))])
 (.op 3 none [3] (.app 10 (.st 2) true (.tmp 7) (.tmp 9))
 (qd 6 [qn [.app 13 (.st 2) true (.tmp 10) (.tmp 12),qa 5 13]] .nil))))) (.op 5 none [8] (.AW 12 1 (.st 2) [(0,(.tmp 11))])
 (.op 0 none [3,8] (.AW 7 0 (.st 2) [])
 (.op 3 none [3] (.app 10 (.st 2) true (.tmp 7) (.tmp 9))
 (qd 6 [qn [.app 13 (.st 2) true (.tmp 10) (.tmp 12),qa 5 13]] .nil))))))) [2,5]) (.join [] (sq [qK 6 0] (Kp 100) (bl 0 [cv 6 .i] (.seq (sw 14 [wm 6,wo 12 2,wL,wZ,wB .lss 14] (Kp 262244) (ce 18 (Kp 100) [] 0)) (.seq (.block 1 (.seq (.A8 (qd 0 [wn 21 [wm 5,wm 6]] (qd 3 [wn 24 [wm 5,wm 6]] (qd 7 [wn 28 [wo 0 2,wO 0,wL,wm 6,wE .i 30,wL]] (.op 2 none [29,32] (.call 23 Fp [] rfl [(.tmp 21),(.tmp 22)])
 (.op 5 none [29,32] (.call 26 Ej [] rfl [(.tmp 24),(.tmp 25)])
 (.op 6 none [] (.bin 27 .num .add (.tmp 23) (.tmp 26))
 (.op 13 none [] (.bin 34 .num .gtr (.tmp 27) (.tmp 33))
 .nil))))))) [2,5,6,34]) (cn 34 (Kp 100) (sq [qB 4 false] [4] .ret)))) (qr [wn 19 [wm 6,wI .add 1],
 qn [qa 6 20]] (Kp 100)))))) (sq [qB 4 true] [4] .ret)))⟩
noncomputable def eX(_:PUnit):Option Bool:=
 some true
noncomputable def UE(p0:AF)(p1:AI)(L1:Int->Option Bool)(v2:Int):Option Bool:=
 br (decide (v2<(↑p0.AR.length:Int)))
  (bd (at? p0.AS.AM v2) fun x3=>
  bd (jD ([]++p0.AE++[p1]) v2) fun x4=>
  bd (cU ([]++p0.AE++[p1]) v2) fun x5=>
  br (decide (w64 (x4+x5)>x3))
   (some false)
   (L1 (w64 (v2+1))))
  (jn (eX) ())
noncomputable def mY(p0:AF)(p1:AI):Option Bool:=
 gd (0+p0.AE.length<=lim) (
 gd (([]++p0.AE).length+[p1].length<=lim) (
 gd (0+p0.AE.length<=lim) (
 gd (([]++p0.AE).length+[p1].length<=lim) (
 ev2 ([]++p0.AE++[p1]) [p1] (
 gd (0+p0.AE.length<=lim) (
 gd (([]++p0.AE).length+[p1].length<=lim) (
 ev2 ([]++p0.AE++[p1]) [p1] (
 AT (UE p0 p1) big 0))))))))
noncomputable def N9:GF:=AAT.gf rfl rfl (fun a=>mY a.1 a.2.1) (fun a=>by kernel_rfl)
noncomputable def AAU:YF:=⟨[],[.v (.l (.st 2)),.v (.st 2)],[],.ret [(.l (.st 2))],[.tmp 4],
 sq [qu 3 1,.as 4 (.k .nil),.Av [(.tmp 4 0,(.st 2))]] [0,3] (sr [wn 7 [wm 0,wo 0 3,wL,wc G9 rfl [7,9]],
 qn [qa 5 10]] (Kp 41) (sr [wn 11 [wh (.AW · 0 (.st 2) []),wm 0,wh (.app · (.st 2) true (.tmp 11) (.tmp 12))],
 qn [qa 6 13]] (Kp 105) (.seq (sw 14 [wm 5,wI .geq 0] (Kp 32873) (.cond 15 (Kp 104) [0,3] (sr [wn 16 [wm 6,wm 5,wk 10 3,we (.st 2) 16 17],
 qn [qw 10 19 18]] [6] (sq [qm 20 6,qa 4 20] [4] .ret)) .skip)) (sq [qK 5 0] (Kp 41) (.join [cv 5 .i] (bl 0 [cv 5 .i] (.seq (.join [cv 34 .b] (.A8 (qd 0 [wn 21 [wm 5,wm 0,wZ,wB .lss 21,wM],
 wt 25 26 [wm 0,wm 5,wE (.st 2) 26,wO 0,wL,wo 0 3,wL,wB .lss 30],
 qn [qq 34 25 33]] .nil) [0,3,5,34]) (ce 34 [0,3,5] (Kp 41) 0)) (.block 1 (qr [wn 35 [wm 5,wI .add 1],
 qn [qa 5 36]] (Kp 41))))) (.seq (.A8 (qd 1 [wn 38 [wm 0,wm 5,wh (.sub · (.st 2) (.tmp 38) none (some (.tmp 39)))]] (.op 5 none [] (.ld 42 (some 10) (.tmp 3))
 (.both 0 (.op 0 none [3] (.AW 37 0 (.st 2) [])
 (.both 0 (.op 4 none [3] (.app 41 (.st 2) true (.tmp 37) (.tmp 40))
 (qd 6 [wn 43 [wh (.AW · 1 (.st 2) [(0,(.tmp 42))]),wh (.app · (.st 2) true (.tmp 41) (.tmp 43))],
 qn [qa 6 44]] .nil)) (.op 6 none [] (.AW 43 1 (.st 2) [(0,(.tmp 42))])
 (.op 4 none [3] (.app 41 (.st 2) true (.tmp 37) (.tmp 40))
 (qd 7 [qn [.app 44 (.st 2) true (.tmp 41) (.tmp 43),qa 6 44]] .nil))))) (.op 6 none [] (.AW 43 1 (.st 2) [(0,(.tmp 42))])
 (.op 0 none [3] (.AW 37 0 (.st 2) [])
 (.op 4 none [3] (.app 41 (.st 2) true (.tmp 37) (.tmp 40))
 (qd 7 [qn [.app 44 (.st 2) true (.tmp 41) (.tmp 43),qa 6 44]] .nil))))))) [0,5,6]) (sr [wn 45 [wm 6,wm 0,wm 5,wh (.sub · (.st 2) (.tmp 46) (some (.tmp 47)) none),wh (.app · (.st 2) true (.tmp 45) (.tmp 48))],
 qn [qa 4 49]] [4] .ret)))))))⟩
noncomputable def UG(p0:(List AI))(p1:AI)(v8:Int):Option (List AI):=
 gd (0<=v8/\v8<=(↑p0.length:Int)) (
 gd (0+(List.take v8.toNat p0).length<=lim) (
 gd (([]++List.take v8.toNat p0).length+[p1].length<=lim) (
 gd (0+(List.take v8.toNat p0).length<=lim) (
 gd (([]++List.take v8.toNat p0).length+[p1].length<=lim) (
 ev2 ([]++List.take v8.toNat p0++[p1]) [p1] (
 gd (0+(List.take v8.toNat p0).length<=lim) (
 gd (([]++List.take v8.toNat p0).length+[p1].length<=lim) (
 ev2 ([]++List.take v8.toNat p0++[p1]) [p1] (
 gd (0<=v8/\v8<=(↑p0.length:Int)) (
 gd (([]++List.take v8.toNat p0++[p1]).length+(List.drop v8.toNat p0).length<=lim) (
 some ([]++List.take v8.toNat p0++[p1]++List.drop v8.toNat p0))))))))))))
noncomputable def UF(p0:(List AI))(p1:AI)(L4:Int->Option (List AI))(v5:Int)(v7:Bool):Option (List AI):=
 br v7
  (L4 (w64 (v5+1)))
  (jn (UG p0 p1) v5)
noncomputable def eY(p0:(List AI))(p1:AI)(L4:Int->Option (List AI))(v5:Int):Option (List AI):=
 br (decide (v5<(↑p0.length:Int)))
  (bd (at? p0 v5) fun x6=>
  jn (UF p0 p1 L4 v5) (decide (x6.Id<p1.Id)))
  (jn (UF p0 p1 L4 v5) false)
noncomputable def mZ(p0:(List AI))(p1:AI):Option (List AI):=
 bd (eU p0 p1.Id) fun x1=>
 gd (0+p0.length<=lim) (
 br (decide (x1>=0))
  (bd (at? ([]++p0) x1) fun x2=>
  bd (at? ([]++p0) x1) fun x3=>
  some (([]++p0).set (Int.toNat x1) p1))
  (AT (eY p0 p1) big 0))
noncomputable def OA:GF:=AAU.gf rfl rfl (fun a=>mZ a.1 a.2.1) (fun a=>by kernel_rfl)
noncomputable def AAV:YF:=⟨[],[.v (.st 6),.v (.st 5)],[],.ret [(.st 6),.b],[.cell 4 (some 1),.tmp 5],
 sq [qu 2 0,qu 3 1,.alloc 4 [.nil],.Av [(.cell 4 0,(.l (.st 5)))],qB 5 false] (Kp 28) (sr [wn 8 [wk 1 2,wY G5 rfl],
 qn [.alloc 6 [.nil],.Av [(.cell 6 0,(.l (.st 5)))],qw 1 6 9]] (Kp 92) (.seq (.join [cv 17 .b] (qr [wn 10 [wk 1 2,wY Di rfl,wX,wM],
 wf 13 14 [wo 0 3,wL,wI .lss 1],
 qn [qp 17 13 16]] (Kp 131164)) (.cond 17 [4,6] (Kp 92) (sq [qL 18 1 6,qw 1 4 18,qB 5 false] [4,5] .ret) .skip)) (sr [wn 19 [wo 0 3,wL,wI .rem 9],
 qn [qa 7 21]] (Kp 220) (.seq (.A8 (qd 0 [wn 22 [wo 0 6,wL,wm 7,wo 0 6,wL,wm 7,wE (.l (.st 5)) 26,wL,wk 2 3]] (.op 9 none [22] (.call 31 HE [] rfl [(.tmp 29),(.tmp 30)])
 (qd 10 [qn [qe 32 (.l (.st 5)) 23 24,qw 1 32 31]] .nil))) [2,4,6]) (.seq (sw 33 [wk 1 6,wY Di rfl,wX] [2,4,6,35] (.cond 35 [2,4] [4,6] (sr [wn 36 [wk 1 2,wY G5 rfl],
 qn [qw 1 4 37,qB 5 false]] [4,5] .ret) .skip)) (sq [qL 38 1 6,qw 1 4 38,qB 5 true] [4,5] .ret))))))⟩
noncomputable def UI(p0:AK)(p1:AN)(x1:AK)(v3:Bool):Option (AK×Bool):=
 br v3
  (some (x1,false))
  (bd (at? x1.AJ (p1.At.tmod 9)) fun x4=>
  bd (at? x1.AJ (p1.At.tmod 9)) fun x5=>
  bd (od x5 p1) fun x6=>
  bd (at? x1.AJ (p1.At.tmod 9)) fun x7=>
  bd (at? x1.AJ (p1.At.tmod 9)) fun x8=>
  bd (ZX (AK.mk (x1.AJ.set (p1.At.tmod 9).toNat x6))) fun x9=>
  br (!x9)
   (bd (dV p0) fun x10=>
   some (x10,false))
   (some ((AK.mk (x1.AJ.set (p1.At.tmod 9).toNat x6),true))))
noncomputable def UH(p0:AK)(p1:AN):Option (AK×Bool):=
 bd (dV p0) fun x1=>
 bd (ZX p0) fun x2=>
 br (!x2)
  (jn (UI p0 p1 x1) true)
  (jn (UI p0 p1 x1) (decide (p1.At<1)))
noncomputable def El:GF:=AAV.gf rfl rfl (fun a=>UH a.1 a.2.1) (fun a=>by kernel_rfl)
noncomputable def AAW:YF:=⟨[],[.v (.st 1),.v (.l (.st 2)),.v .i,.v .i,.v .i],[],.ret [(.st 7)],[.cell 10 (some 7)],
 sq [qu 5 0,.alloc 10 Cn,.Av [(.cell 10 5,(.st 4)),(.cell 10 6,(.l (.st 5)))]] (Kp 1086) (sq [qc 18 Dx rfl [],.alloc 11 [.nil],.Av [(.cell 11 0,(.l (.st 5)))],qw 1 11 18] (Kp 3134) (sr [wn 19 [wm 1,wm 2,wc I0 rfl [19,20]],
 qn [qa 12 21]] (Kp 7230) (.join [cx 11 (.st 6)] (sq [qK 13 0] (Kp 15422) (bl 0 [cv 13 .i,cx 11 (.st 6)] (.seq (sw 22 [wm 13,wm 12,wZ,wB .lss 22] (Kp 33569854) (ce 25 [1,2,3,4,5,10,11,12,13] (Kp 3134) 0)) (.seq (.block 1 (.A8 (qd 0 [wn 29 [wk 1 11,wm 12,wm 13,wE (.st 5) 30,wK 2,wc El rfl [29,33]],
 qn [qm 28 34],
 wn 35 [wh (.ext · (.tmp 28) 0),wh (.ext · (.tmp 28) 1)],
 qn [qw 1 11 35]] .nil) [1,2,3,4,5,10,11,12,13])) (qr [wn 26 [wm 13,wI .add 1],
 qn [qa 13 27]] (Kp 15422)))))) (sr [wn 37 [wm 1,wm 2,wc Fp rfl [37,38]],
 qn [qa 14 39]] (Kp 19518) (sr [wn 40 [wm 1,wm 2,wc Ej rfl [40,41]],
 qn [qa 15 42]] (Kp 52286) (sr [wn 43 [wo 0 5,wL,wm 2,wE .i 44,wL],
 qn [qa 16 47]] (Kp 117822) (sr [wn 48 [wm 15,wm 16,wm 14,wB .sub 49,wm 4,wB .sub 51,wc HD rfl [48,53]],
 qn [qa 17 54]] (Kp 248878) (.seq (.A8 (qd 0 [wn 55 [wm 16,wm 16,wm 14,wB .sub 56,wm 17,wB .sub 58,wm 14,wm 17,wm 15,wh (.build · Bf [(0,1,(.tmp 55)),(1,1,(.tmp 60)),(2,1,(.tmp 61)),(3,1,(.tmp 62)),(4,1,(.tmp 63))]),wk 9 5,wm 1,wm 2,wm 3]] (.op 15 none [] (.ld 70 (some 1) (.tmp 11))
 (.op 14 none [11] (.call 69 Iz [] rfl [(.tmp 65),(.tmp 66),(.tmp 67),(.tmp 68)])
 (qd 16 [qn [.build 71 Cn [(0,5,(.tmp 64)),(5,1,(.tmp 69)),(6,1,(.tmp 70))],qw 7 10 71]] .nil)))) [10]) .ret))))))))⟩
noncomputable def eZ(p0:AO)(p1:(List AI))(p2:Int)(p3:Int)(p4:Int)(v9:AK):Option Am:=
 bd (jD p1 p2) fun x10=>
 bd (cU p1 p2) fun x11=>
 bd (at? p0.AM p2) fun x12=>
 bd (jE x11 (w64 (w64 (x12-x10)-p4))) fun x13=>
 bd (oZ p0 p1 p2 p3) fun x14=>
 some (Am.mk (BH.mk x12 (w64 (w64 (x12-x10)-x13)) x10 x13 x11) x14 v9)
noncomputable def UJ(p0:AO)(p1:(List AI))(p2:Int)(p3:Int)(p4:Int)(x2:(List AN))(L3:(Int×AK)->Option Am)(x_:(Int×AK)):Option Am:=
 match x_ with
 |(v4,v5)=>br (decide (v4<(↑(List.length x2):Int)))
  (bd (at? x2 v4) fun x6=>
  bd (at? x2 v4) fun x7=>
  bd (UH v5 x7) fun x8=>
  L3 ((w64 (v4+1),x8.fst)))
  (jn (eZ p0 p1 p2 p3 p4) v5)
noncomputable def ma(p0:AO)(p1:(List AI))(p2:Int)(p3:Int)(p4:Int):Option Am:=
 bd (T2) fun x1=>
 bd (jF p1 p2) fun x2=>
 AT (UJ p0 p1 p2 p3 p4 x2) big (0,x1)
noncomputable def OB:GF:=AAW.gf rfl rfl (fun a=>ma a.1 a.2.1 a.2.2.1 a.2.2.2.1 a.2.2.2.2.1) (fun a=>by kernel_rfl)
noncomputable def AAX:YF:=⟨[],[.v (.l .i),.v .i],[],.ret [(.l .i)],[.tmp 4],
 sq [.as 4 (.k .nil),.Av [(.tmp 4 0,.i)]] [0,1] (sr [wn 6 [wh (.AW · 0 .i []),wm 0,wh (.app · .i true (.tmp 6) (.tmp 7))],
 qn [qa 5 8]] (Kp 35) (.seq (sw 9 [wm 0,wm 1,wc LM rfl [9,10]] (Kp 2082) (.cond 11 [5] [1,5] (sq [qm 12 5,qa 4 12] [4] .ret) .skip)) (sr [wn 13 [wm 5,wm 1,wh (.AW · 1 .i [(0,(.tmp 14))]),wh (.app · .i true (.tmp 13) (.tmp 15))],
 qn [qa 4 16]] [4] .ret)))⟩
noncomputable def mb(p0:(List Int))(p1:Int):Option (List Int):=
 gd (0+p0.length<=lim) (
 bd (rF p0 p1) fun x1=>
 br x1
  (some ([]++p0))
  (gd (([]++p0).length+[p1].length<=lim) (
  some ([]++p0++[p1]))))
noncomputable def OC:GF:=AAX.gf rfl rfl (fun a=>mb a.1 a.2.1) (fun a=>by kernel_rfl)
noncomputable def AAY:YF:=⟨[],[.b (.st 17)],[],.ret [(.st 8)],[.cell 2 (some 15)],
 sq [.alloc 2 A9,.Av [(.cell 2 0,.i),(.cell 2 11,(.st 2)),(.cell 2 12,(.st 7)),(.cell 2 13,.i),(.cell 2 14,.i)]] [0,2] (sr [wn 12 [wm 0,wY Nz rfl],
 qn [.alloc 3 B2,.Av [(.cell 3 0,.i)],qw 9 3 13]] (Kp 13) (sr [wn 15 [wk 9 3,wY N7 rfl],
 qn [qm 14 16],
 wn 17 [wh (.ext · (.tmp 14) 0),wh (.ext · (.tmp 14) 1)],
 qn [.alloc 4 A9,.Av [(.cell 4 0,.i),(.cell 4 11,(.st 2)),(.cell 4 12,(.st 7)),(.cell 4 13,.i),(.cell 4 14,.i)],qw 15 4 17,qa 5 18]] (Kp 29) (sr [wn 19 [wm 0,wc AQ rfl [19,qj 20],wo 9 4],
 qn [qw 1 21 20]] (Kp 29) (sr [wn 22 [wm 0,wc AQ rfl [22,qj 9]],
 qn [qa 6 23]] (Kp 93) (sq [qK 7 0] (Kp 221) (.join [(true,0,.one,[.val (.st 17) (some (.old 0))]),cx 4 (.st 8)] (sq [qK 8 0] (Kp 477) (bl 0 [cv 7 .i,cv 8 .i,(true,0,.one,[.val (.st 17) (some (.old 0))]),cx 4 (.st 8)] (.seq (sw 24 [wm 8,wm 6,wB .lss 24] (Kp 67109341) (ce 26 [0,2,3,4,6,7,8] (Kp 29) 0)) (.join [cv 7 .i,(true,0,.one,[.val (.st 17) (some (.old 0))]),cx 4 (.st 8)] (.block 1 (sr [wn 29 [wm 0,wk 9 3,wo 9 4,wL,wc IJ rfl [29,30,32]],
 qn [.alloc 9 BM,qw 10 9 33]] (Kp 989) (sr [wn 34 [wm 0,wc AQ rfl [34,qj 12],wh (.bin · .num .add (.k (.int .i64 1)) (.tmp 35)),wo 0 9],
 qn [qw 1 37 36]] (Kp 989) (.seq (.A8 (qd 0 [wn 38 [wo 10 4,wL,wm 0]] (.op 3 none [38] (.call 41 AQ [] rfl [(.tmp 40),(.k (.int .i64 2))])
 (qd 4 [wn 42 [wB .add 39,wo 6 9],
 qn [qw 1 43 42]] .nil))) [0,2,3,4,6,7,8,9]) (sr [wn 44 [wm 7,wm 0,wc AQ rfl [45,qj 4],wB .add 44],
 qn [qa 7 47]] (Kp 989) (sr [wn 48 [wm 7,wo 9 4,wL,wc Ny rfl [48,50],wo 5 9],
 qn [qw 1 52 51]] (Kp 989) (.join [cx 9 (.st 2)] (sw 53 [wo 2 9,wL,wo 1 9,wL,wB .eql 54] (Kp 144115188075856861) (.cond 57 [0,2,3,4,6,7,8,9] (Kp 989) (q1 [qo 58 2 9,.st 1 (.tmp 58) (.k (.int .i64 (-1)))] (Kp 989)) .skip)) (.seq (.join [cv 80 .b] (.A8 (qd 0 [wn 59 [wo 11 4,wL,wo 0 9,wL,wc G9 rfl [60,62],wI .geq 0,wM],
 wf 65 66 [wo 11 4,wL,wo 1 9,wL]] (qd 12 [wf 65 71 [wo 2 3,wL]] (.op 11 (some (65,false)) [71] (.call 70 LD [] rfl [(.tmp 67),(.tmp 69)])
 (qd 14 [qf 65 [qb 73 .geq 70 72],
 wn 74 [wR 65,wM],
 wf 75 76 [wk 15 4,wk 10 9,wc N9 rfl [76,77],wX],
 qn [qp 80 75 79]] .nil)))) [0,2,3,4,6,7,8,9,80]) (.cond 80 [0,2,3,4,6,7,8] (Kp 989) (.exit 1) .skip)) (sr [wn 81 [wo 6 9,wL,wI .add 1,wo 10 4],
 qn [qw 1 84 83]] (Kp 989) (qr [wn 85 [wo 11 4,wL,wk 10 9,wc OA rfl [86,87],wo 11 4],
 qn [qw 1 89 88]] (Kp 477))))))))))) (qr [wn 27 [wm 8,wI .add 1],
 qn [qa 8 28]] (Kp 477)))))) (.join [(true,0,.one,[.val (.st 17) (some (.old 0))]),cx 4 (.st 8)] (sq [qK 10 0] (Kp 1053) (bl 2 [cv 10 .i,(true,0,.one,[.val (.st 17) (some (.old 0))]),cx 4 (.st 8)] (.seq (sw 90 [wm 10,wo 12 4,wL,wZ,wB .lss 90] [0,2,3,4,10,94] (ce 94 [0,2,3,4,10] (Kp 29) 2)) (.join [(true,0,.one,[.val (.st 17) (some (.old 0))]),cx 4 (.st 8)] (.block 3 (.seq (.A8 (qd 0 [wn 97 [wo 12 4,wL,wm 10,wk 9 3,wo 11 4,wL,wm 10,wo 9 4,wL,wm 0]] (.op 10 none [3,97,101,104] (.call 107 AQ [] rfl [(.tmp 106),(.k (.int .i64 6))])
 (.op 11 none [97] (.call 108 OB [] rfl [(.tmp 100),(.tmp 102),(.tmp 103),(.tmp 105),(.tmp 107)])
 (qd 12 [qn [qe 109 (.st 7) 98 99,qw 7 109 108]] .nil)))) [0,2,3,4,10]) (sw 110 [wm 0,wc Bk rfl [110,qj 2]] [0,2,3,4,10,111] (.cond 111 [0,2,3,4,10] (Kp 1053) (qr [wn 112 [wo 13 4,wL,wm 10,wc OC rfl [113,114],wo 13 4],
 qn [qw 1 116 115]] (Kp 1053)) .skip)))) (qr [wn 95 [wm 10,wI .add 1],
 qn [qa 10 96]] (Kp 1053)))))) (.join [(true,0,.one,[.val (.st 17) (some (.old 0))]),cx 4 (.st 8)] (sq [qK 11 0] (Kp 2077) (bl 4 [cv 11 .i,(true,0,.one,[.val (.st 17) (some (.old 0))]),cx 4 (.st 8)] (.seq (sw 117 [wm 11,wo 14 4,wL,wZ,wB .lss 117] [0,2,3,4,11,121] (ce 121 [0,2,3,4,11] (Kp 21) 4)) (.join [(true,0,.one,[.val (.st 17) (some (.old 0))]),cx 4 (.st 8)] (.block 5 (sw 124 [wm 0,wc Bk rfl [124,qj 3]] [0,2,3,4,11,125] (.cond 125 [0,2,3,4,11] (Kp 2077) (.A8 (qd 0 [wn 126 [wo 14 4,wL,wm 11,wm 0,wo 0 3,wL,wZ]] (.op 7 none [126] (.call 133 AQ [] rfl [(.tmp 129),(.tmp 132)])
 (qd 8 [qn [qe 134 .i 127 128,qw 1 134 133]] .nil))) [0,2,3,4,11]) .skip))) (qr [wn 122 [wm 11,wI .add 1],
 qn [qa 11 123]] (Kp 2077)))))) (sq [qL 135 15 4,qw 15 2 135] [0,2] .ret)))))))))⟩
noncomputable def UK(L5:(Int×Int×AH×AF)->Option (AF×AH))(v7:Int)(x_:(Int×AH×AF)):Option (AF×AH):=
 match x_ with
 |(v18,v19,v20)=>L5 ((v18,w64 (v7+1),v19,v20))
noncomputable def Kx(L5:(Int×Int×AH×AF)->Option (AF×AH))(v6:Int)(v7:Int)(v9:AF)(x13:(Int×AH))(v15:AI)(v17:Bool):Option (AF×AH):=
 br v17
  (jn (UK L5 v7) ((w64 (v6+x13.fst),x13.snd,v9)))
  (bd (mZ v9.AE v15) fun x21=>
  jn (UK L5 v7) ((w64 (v6+x13.fst),x13.snd,AF.mk v9.AS v9.Now (w64 (v15.Ah+1)) x21 v9.AR v9.A7 v9.BC)))
noncomputable def PR(x1:(AO×AH))(L5:(Int×Int×AH×AF)->Option (AF×AH))(v6:Int)(v7:Int)(v9:AF)(x13:(Int×AH))(v15:AI):Option (AF×AH):=
 bd (eU v9.AE v15.Id) fun x16=>
 br (decide (x16>=0))
  (jn (Kx L5 v6 v7 v9 x13 v15) true)
  (bd (qR v9.AE v15.A4) fun x22=>
  br (decide (x22>=x1.fst.Room))
   (jn (Kx L5 v6 v7 v9 x13 v15) true)
   (bd (mY v9 v15) fun x23=>
   jn (Kx L5 v6 v7 v9 x13 v15) (!x23)))
noncomputable def UM(L26:(Int×AH×AF)->Option (AF×AH))(v27:Int)(x_:(AH×AF)):Option (AF×AH):=
 match x_ with
 |(v36,v37)=>L26 ((w64 (v27+1),v36,v37))
noncomputable def Qp(L40:(Int×AH×AF)->Option (AF×AH))(v41:Int)(x_:(AH×AF)):Option (AF×AH):=
 match x_ with
 |(v48,v49)=>L40 ((w64 (v41+1),v48,v49))
noncomputable def X8(x_:(AH×AF)):Option (AF×AH):=
 match x_ with
 |(v50,v51)=>some (v51,v50)
noncomputable def ez(x1:(AO×AH))(L40:(Int×AH×AF)->Option (AF×AH))(x_:(Int×AH×AF)):Option (AF×AH):=
 match x_ with
 |(v41,v42,v43)=>br (decide (v41<(↑v43.BC.length:Int)))
  (bd (KN v42 3) fun x44=>
  br x44.fst
   (bd (A3 x44.snd (↑x1.fst.AM.length:Int)) fun x45=>
   bd (at? v43.BC v41) fun x46=>
   bd (at? v43.BC v41) fun x47=>
   jn (Qp L40 v41) ((x45.snd,AF.mk v43.AS v43.Now v43.Ah v43.AE v43.AR v43.A7 (v43.BC.set (Int.toNat v41) x45.fst))))
   (jn (Qp L40 v41) (x44.snd,v43)))
  (jn (X8) (v42,v43))
noncomputable def ee(x1:(AO×AH))(x_:(AH×AF)):Option (AF×AH):=
 match x_ with
 |(v38,v39)=>AT (ez x1) big (0,v38,v39)
noncomputable def eu(x1:(AO×AH))(L26:(Int×AH×AF)->Option (AF×AH))(x_:(Int×AH×AF)):Option (AF×AH):=
 match x_ with
 |(v27,v28,v29)=>br (decide (v27<(↑v29.AR.length:Int)))
  (bd (A3 v28 6) fun x30=>
  bd (ma x1.fst v29.AE v27 v29.Now x30.fst) fun x31=>
  bd (at? v29.AR v27) fun x32=>
  bd (at? v29.AR v27) fun x33=>
  bd (KN x30.snd 2) fun x34=>
  br x34.fst
   (bd (mb v29.A7 v27) fun x35=>
   jn (UM L26 v27) ((x34.snd,AF.mk v29.AS v29.Now v29.Ah v29.AE (v29.AR.set (Int.toNat v27) x31) x35 v29.BC)))
   (jn (UM L26 v27) ((x34.snd,AF.mk v29.AS v29.Now v29.Ah v29.AE (v29.AR.set (Int.toNat v27) x31) v29.A7 v29.BC))))
  (jn (ee x1) (v28,v29))
noncomputable def UL(x1:(AO×AH))(x_:(AH×AF)):Option (AF×AH):=
 match x_ with
 |(v24,v25)=>AT (eu x1) big (0,v24,v25)
noncomputable def eg(x1:(AO×AH))(x4:(Int×AH))(L5:(Int×Int×AH×AF)->Option (AF×AH))(x_:(Int×Int×AH×AF)):Option (AF×AH):=
 match x_ with
 |(v6,v7,v8,v9)=>br (decide (v7<x4.fst))
  (bd (eT v8 x1.fst v9.Now) fun x10=>
  bd (A3 x10.snd 12) fun x11=>
  bd (A3 x11.snd 2) fun x12=>
  bd (A3 x12.snd 4) fun x13=>
  bd (mG (w64 (v6+x13.fst)) v9.Now) fun x14=>
  br (x10.fst.CB==x10.fst.A4)
   (jn (PR x1 L5 v6 v7 v9 x13) (AI.mk (w64 (1+x11.fst)) x10.fst.A4 (-1) x10.fst.As x10.fst.CX x14 (w64 (v9.Ah+x12.fst)) x10.fst.State x10.fst.BW x10.fst.CA))
   (jn (PR x1 L5 v6 v7 v9 x13) (AI.mk (w64 (1+x11.fst)) x10.fst.A4 x10.fst.CB x10.fst.As x10.fst.CX x14 (w64 (v9.Ah+x12.fst)) x10.fst.State x10.fst.BW x10.fst.CA)))
  (jn (UL x1) (v8,v9))
noncomputable def X7(p0:AH):Option (AF×AH):=
 bd (mH p0) fun x1=>
 bd (eF x1.fst) fun x2=>
 bd (A3 x1.snd 20) fun x3=>
 bd (A3 x3.snd 9) fun x4=>
 AT (eg x1 x4) big (0,0,x4.snd,AF.mk x2.fst.AS x3.fst x2.fst.Ah x2.fst.AE x2.fst.AR x2.fst.A7 x2.fst.BC)
noncomputable def HA:GF:=AAY.gf rfl rfl (fun a=>X7 a.1) (fun a=>by kernel_rfl)
end Lv
set_option maxRecDepth 100000
namespace Lv
open Go (IntKind BinOp UnOp)
open Y (YF qn qf qt qr q1 qd qm qa qo ql qL qb qi qx qp qq qc qz qe qk qK qB qw qu qj Kp wn wf wt w1 sw sq sr wm wM wo wO wl wL wk wK wz wZ wx wX wb wB wi wI wr wR wq wQ we wE wc wY wj wh cv ca cx cn ce bl)
noncomputable def AAZ:YF:=⟨[],[.b (.st 17),.v (.l .i)],[],.ret [.i],[.tmp 4],
 sq [qK 4 0] [0,1] (sr [wn 5 [wm 1,wm 0,wm 1,wZ,wc AQ rfl [6,8],wE .i 5,wL],
 qn [qa 4 11]] [0,4] .ret)⟩
noncomputable def KO(p0:AH)(p1:(List Int)):Option (Int×AH):=
 bd (A3 p0 (↑p1.length:Int)) fun x1=>
 bd (at? p1 x1.fst) fun x2=>
 some (x2,x1.snd)
noncomputable def B0:GF:=AAZ.gf rfl rfl (fun a=>KO a.1 a.2.1) (fun a=>by kernel_rfl)
noncomputable def AAa:YF:=⟨[],[.v (.l .u),.v .i],[],.ret [.i],[.tmp 4],
 sq [qK 4 0] [0,1] (.seq (sw 5 [wm 1,wm 0,wZ,wB .lss 5] (Kp 259) (.cond 8 [0,1] [0,1] (sr [wn 9 [wm 0,wm 1,wE .u 9,wL,wh (.cvI · .i64 (.tmp 12))],
 qn [qa 4 13]] [4] .ret) .skip)) (sr [wn 14 [wm 1,wI .mul 7,wm 0,wZ,wB .add 15,wI .rem 256],
 qn [qa 4 19]] [4] .ret))⟩
noncomputable def Iq(p0:(List UInt8))(p1:Int):Option Int:=
 br (decide (p1<(↑p0.length:Int)))
  (bd (at? p0 p1) fun x1=>
  some (w64 (↑(UInt8.toNat x1):Int)))
  (some ((w64 (w64 (p1*7)+(↑p0.length:Int))).tmod 256))
noncomputable def HB:GF:=AAa.gf rfl rfl (fun a=>Iq a.1 a.2.1) (fun a=>by kernel_rfl)
end Lv
