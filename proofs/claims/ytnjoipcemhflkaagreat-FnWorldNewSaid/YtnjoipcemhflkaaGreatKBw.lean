/- Functions of the program as typed texts and as plain functions. -/
import Derived.Test.YtnjoipcemhflkaaGreatKAw
open List renaming length->an
noncomputable section
set_option linter.unusedVariables false
set_option linter.unusedSimpArgs false
set_option linter.unusedSectionVars false
set_option maxRecDepth 100000
namespace Lv
open Go (IntKind BinOp UnOp)
open Y (YF qn qf qt qr q1 qd qm qa qo ql qL qb qi qx qp qq qc qz qe qk qK qB qw qu qj Kp wn wf wt w1 sw sq sr wm wM wo wO wl wL wk wK wz wZ wx wX wb wB wi wI wr wR wq wQ we wE wc wY wj wh cv ca cx cn ce bl)
def AJn(a:Aa):AA (List Int):=bd (WM a) fun c=>br (!c) (some []) (gd ([a.CS,a.Room,a.BE,a.CE,a.Bz,a.Rest,a.CY,a.Cu].length+a.AY.length<=lim) (some ([a.CS,a.Room,a.BE,a.CE,a.Bz,a.Rest,a.CY,a.Cu]++a.AY)))
def ARK:=gZ Su Al5 DA ["IeGEwWoOalOlLDsWU0dThEHjdGgGansXTVoj5h6QVERqXxUv6pgKkRn2PACxr"] [So] (Bc AJn)
def AaB(c:C):YF:=⟨[],[.v (.st 8)],[],.ret [c],[.tmp 2],sq [qu 1 0,.as 2 (.k .nil)] [1] (.seq (sw 11 [wk 15 1,wY Qs rfl,wX] [1,13] (cn 13 [1] (sq [.as 2 (.k .nil)] [2] .ret))) (sr [wn 14 [wo 0 1,wK 9,wY ARK rfl],qn [qa 3 16]] [1,3] (sr [wn 17 [wm 3,wZ,wh (.CF · 1 .i [(0,(.tmp 18))]),wm 3,wh (.app · .i true (.tmp 19) (.tmp 20))],qn [qa 4 21]] [1,4] (sr [wn 22 [wm 4,wo 9 1,wL,wo 10 1,wL,wo 11 1,wL,wZ,wh (.CF · 3 .i [(0,(.tmp 24)),(1,(.tmp 26)),(2,(.tmp 29))]),wh (.app · .i true (.tmp 22) (.tmp 30))],qn [qa 4 31]] [1,4] (.join [cv 4 (.l .i)] (sw 32 [wo 11 1,wL,wZ,wj 0] (Kp 60129542162) (bl 0 [cv 4 (.l .i),cv 35 .i] (sq [qb 36 .lss 35 34] (Kp 128849018898) (.seq (ce 36 (Kp 60129542162) [1,4] 0) (.seq (.block 1 (sr [wn 37 [we (.st 2) 33 35,wK 10],qn [.alloc 6 AXU,qw 10 6 38]] (Kp 60129542226) (qr [wn 39 [wm 4,wo 0 6,wL,wo 1 6,wL,wo 2 6,wL,wI .add 1,wo 3 6,wL,wo 4 6,wL,wo 5 6,wL,wo 6 6,wL,wo 7 6,wL,wo 8 6,wL,wo 9 6,wL,wh (.CF · 10 .i [(0,(.tmp 41)),(1,(.tmp 43)),(2,(.tmp 46)),(3,(.tmp 48)),(4,(.tmp 50)),(5,(.tmp 52)),(6,(.tmp 54)),(7,(.tmp 56)),(8,(.tmp 58)),(9,(.tmp 60))]),wh (.app · .i true (.tmp 39) (.tmp 61))],qn [qa 4 62]] (Kp 60129542162)))) (q1 [qi 63 .add 35 1,qm 35 63] (Kp 60129542162))))))) (.join [cv 4 (.l .i)] (sw 64 [wo 12 1,wL,wZ,wj 0] [1,4,65,66,67] (bl 2 [cv 4 (.l .i),cv 67 .i] (sq [qb 68 .lss 67 66] [1,4,65,66,67,68] (.seq (ce 68 [1,4,65,66,67] [1,4] 2) (.seq (.block 3 (sr [wn 69 [we (.st 7) 65 67,wK 7],qn [.alloc 8 AXT,.VZ [(.cell 8 5,(.st 4)),(.cell 8 6,(.l (.st 5)))],qw 7 8 70]] [1,4,8,65,66,67] (qr [wn 71 [wm 4,wo 0 8,wO 1,wL,wh (.CF · 1 .i [(0,(.tmp 74))]),wh (.app · .i true (.tmp 71) (.tmp 75))],qn [qa 4 76]] [1,4,65,66,67]))) (q1 [qi 77 .add 67 1,qm 67 77] [1,4,65,66,67])))))) (sr [wn 78 [wm 4,wo 13 1,wL,wZ,wh (.CF · 1 .i [(0,(.tmp 81))]),wh (.app · .i true (.tmp 78) (.tmp 82))],qn [qa 4 83]] [1,4] (sr [wn 84 [wm 4,wo 13 1,wL,wh (.app · .i true (.tmp 84) (.tmp 86))],qn [qa 4 87]] [1,4] (.join [cv 4 (.l .i)] (sw 88 [wo 14 1,wL,wZ,wj 0] [4,89,90,91] (bl 4 [cv 4 (.l .i),cv 91 .i] (sq [qb 92 .lss 91 90] [4,89,90,91,92] (.seq (ce 92 [4,89,90,91] [4] 4) (.seq (.block 5 (sr [wn 93 [we .i 89 91,wL],qn [qa 10 94]] [4,10,89,90,91] (qr [wn 95 [wm 4,wm 10,wI .add 1,wh (.CF · 1 .i [(0,(.tmp 97))]),wh (.app · .i true (.tmp 95) (.tmp 98))],qn [qa 4 99]] [4,89,90,91]))) (q1 [qi 100 .add 91 1,qm 91 100] [4,89,90,91])))))) (sq [qm 101 4,qa 2 101] [2] .ret))))))))))⟩
def AsD:YF:=AaB (.l .i)
def AA3(a:List Int):AA (List Int):=some a
def fj(h:AE)(g:List Int×Int->AA (List Int))(j:List Int×Int):AA (List Int):=let (a,c):=j;br (decide (c<h.A9.length)) (bd (at? h.A9 c) fun e=>gd (an a+[w64 (e+1)].length<=lim) (g (a++[w64 (e+1)],w64 (c+1)))) (jn AA3 a)
def Wc(c:AE)(a:List Int):AA (List Int):=gd (a.length+[(↑c.BB.length:Int)].length<=lim) (gd ((a++[(↑c.BB.length:Int)]).length+c.BB.length<=lim) (BD (fj c) big (a++[(↑c.BB.length:Int)]++c.BB,0)))
def fh(e:AE)(h:List Int×Int->AA (List Int))(j:List Int×Int):AA (List Int):=let (g,a):=j;br (decide (a<e.AH.length)) (bd (at? e.AH a) fun c=>gd (an g+[c.AY.Dv].length<=lim) (h (g++[c.AY.Dv],w64 (a+1)))) (jn (Wc e) g)
def Wb(a:AE)(c:List Int):AA (List Int):=BD (fh a) big (c,0)
def fc(c:AE)(h:List Int×Int->AA (List Int))(j:List Int×Int):AA (List Int):=let (e,g):=j;br (decide (g<c.AG.length)) (bd (at? c.AG g) fun a=>gd (an e+[a.Id,a.Ab,w64 (a.Bu+1),a.BE,a.DJ,a.Since,a.A0,a.State,a.C7,a.Dh].length<=lim) (h (e++[a.Id,a.Ab,w64 (a.Bu+1),a.BE,a.DJ,a.Since,a.A0,a.State,a.C7,a.Dh],w64 (g+1)))) (jn (Wb c) e)
def AA2(a:AE):AA (List Int):=bd (Rh a) fun e=>br (!e) none (bd (AJn a.AQ) fun c=>gd ([(↑(an c):Int)].length+an c<=lim) (gd (([(↑(an c):Int)]++c).length+[a.Now,a.A0,(↑a.AG.length:Int)].length<=lim) (BD (fc a) big ([(↑(an c):Int)]++c++[a.Now,a.A0,(↑a.AG.length:Int)],0))))
def AFx:GF:=AsD.EI (Bc AA2)
def AA4(e:Int×List UInt8):AA (List UInt8):=let (a,c):=e;gd (c.length+[toB a].length<=lim) (some (c++[toB a]))
def AA5(e:Int×List UInt8->AA (List UInt8))(g:Int×List UInt8):AA (List UInt8):=let (a,c):=g;br (decide (a>=128)) (gd (c.length+[toB (w64 (Int.tmod a 128+128))].length<=lim) (e (w64 (Int.tdiv a 128),c++[toB (w64 (Int.tmod a 128+128))]))) (jn AA4 (a,c))
def fk(a:Int):AA (List UInt8):=bd (C5 a 0 2147483647) fun c=>br (!c) (some []) (BD AA5 big (a,[]))
def AFy:=gZ mI (.ret [(.l .u)]) DA ["6jVIsm3Q3SQRPKXXtA8qH6CxeX0ruJjrPgRvBJHKYE8j6dxKbH6WSjuHv9wuosZJdbZcNQYv06hq0HCW","7LJmHUcUkSMp"] [Et] (Bc fk)
def AA6(a:List UInt8):AA (List UInt8):=some a
def fq(e:List Int)(h:List UInt8×Int->AA (List UInt8))(q:List UInt8×Int):AA (List UInt8):=let (a,c):=q;br (decide (c<e.length)) (bd (at? e c) fun j=>bd (fk j) fun g=>gd (an a+an g<=lim) (h (a++g,w64 (c+1)))) (jn AA6 a)
def az(a:List Int):AA (List UInt8):=BD (fq a) big ([],0)
def AFz:=gZ [.v (.l .i)] AbZ DA ["FQxG5s7XEwhWBaJvNkX2P7F8bUrCcJbGfRm8u0KcvDeFGq0kN6x3lEChOTn6Mxe7Hwzo8y"] [AFy] (Bc az)
def ft(a:Int×Int->AA Int)(c e:Int):AA Int:=a (e,w64 (c+1))
def AA8(a:Int×Int->AA Int)(c e:Int):AA Int:=a (e,w64 (c+1))
def fv(g:Int×Int->AA Int)(h:Int)(e:Int×Int->AA Int)(j:Int×Int):AA Int:=let (a,c):=j;br (decide (c<8)) (br (dw a 1==1) (jn (ft e c) (UY (D4 a 1) 3988292384)) (jn (ft e c) (D4 a 1))) (jn (AA8 g h) a)
def AA9(a:Int):AA Int:=some (UY a 4294967295)
def fu(c:List UInt8)(g:Int×Int->AA Int)(j:Int×Int):AA Int:=let (e,a):=j;br (decide (a<c.length)) (bd (at? c a) fun h=>BD (fv g a) big (UY e (w64 (↑(UInt8.toNat h):Int)),0)) (jn AA9 e)
def AA7(a:List UInt8):AA Int:=BD (fu a) big (4294967295,0)
def AF0:=gZ [.v (.l .u)] C9 DA ["4nnD5iGun0ohhCQWXbo2NhqWHRFEW52TXOgj3lY4NBMQkMWNWqMvTtQjWWwlWbJT2BTrhuPPuUuIX667","SxlO4IFDTBs6t68DpfngjjgJTBL3tw5vJz9aGLReFqtf9f9o6fRAemaubW"] [] (Bc AA7)
def AsE:YF:=⟨[],[.v (.st 8),.v .i],[],.ret [.s],[.tmp 4],sq [qu 2 0,.as 4 (.k (.str []))] [1,2] (sr [wn 8 [wk 15 2,wY AFx rfl],qn [qa 5 9]] [1,5] (.seq (sr [wn 10 [wm 5,wh (.bin · .sl .eql (.tmp 10) (.k .nil)),wM],wf 12 13 [wm 1,wc Et rfl [13,qj 0,qj 1000000],wX],qn [qp 16 12 15]] [1,5,16] (cn 16 [1,5] (sq [.as 4 (.k (.str []))] [4] .ret))) (.seq (.VE (.op 0 none [] (.mv 17 (.tmp 1)) (.op 3 none [] (.mv 20 (.tmp 5)) (qd 1 [wn 18 [wY AFy rfl,wh (.Ox · (.tmp 18))]] (.op 4 none [18] (.call 21 AFz [] rfl [(.tmp 20)]) (qd 5 [qn [qb 22 .add 19 21,qa 6 22]] .nil))))) [6]) (sr [wn 23 [wm 6,wh (.MY · (.tmp 23)),wY AF0 rfl],qn [qa 7 25]] [6,7] (sr [wn 26 [wm 7,wh (.bin · .num .shr (.tmp 26) (.k (.int .u64 24))),wh (.cvI · .u8 (.tmp 27)),wm 7,wh (.bin · .num .shr (.tmp 29) (.k (.int .u64 16))),wh (.cvI · .u8 (.tmp 30)),wm 7,wh (.bin · .num .shr (.tmp 32) (.k (.int .u64 8))),wh (.cvI · .u8 (.tmp 33)),wm 7,wh (.cvI · .u8 (.tmp 35)),wh (.CF · 4 .u [(0,(.tmp 28)),(1,(.tmp 31)),(2,(.tmp 34)),(3,(.tmp 36))]),wh (.Ox · (.tmp 37)),wm 6,wB .add 38],qn [qa 4 40]] [4] .ret)))))⟩
def ABA(j:AE)(g:Int):AA (List UInt8):=bd (AA2 j) fun h=>gd (List.isEmpty h=false) (bd (C5 g 0 1000000) fun q=>br (!q) (some []) (bd (fk g) fun c=>bd (az h) fun e=>gd (an c+an e<=Mn) (bd (AA7 (c++e)) fun a=>gd ([toB (D4 a 24),toB (D4 a 16),toB (D4 a 8),toB a].length+(c++e).length<=Mn) (some ([toB (D4 a 24),toB (D4 a 16),toB (D4 a 8),toB a]++(c++e))))))
def AF1:GF:=AsE.EI (A4 ABA)
def AsF:YF:=AaB .z
def Aqh(a:List Int):AA PUnit:=none
def Aqk(h:AE)(g:List Int×Int->AA PUnit)(j:List Int×Int):AA PUnit:=let (a,c):=j;br (decide (c<h.A9.length)) (bd (at? h.A9 c) fun e=>gd (an a+[w64 (e+1)].length<=lim) (g (a++[w64 (e+1)],w64 (c+1)))) (jn Aqh a)
def Aqg(c:AE)(a:List Int):AA PUnit:=gd (a.length+[(↑c.BB.length:Int)].length<=lim) (gd ((a++[(↑c.BB.length:Int)]).length+c.BB.length<=lim) (BD (Aqk c) big (a++[(↑c.BB.length:Int)]++c.BB,0)))
def Aqj(e:AE)(h:List Int×Int->AA PUnit)(j:List Int×Int):AA PUnit:=let (g,a):=j;br (decide (a<e.AH.length)) (bd (at? e.AH a) fun c=>gd (an g+[c.AY.Dv].length<=lim) (h (g++[c.AY.Dv],w64 (a+1)))) (jn (Aqg e) g)
def Aqf(a:AE)(c:List Int):AA PUnit:=BD (Aqj a) big (c,0)
def Aqi(c:AE)(h:List Int×Int->AA PUnit)(j:List Int×Int):AA PUnit:=let (e,g):=j;br (decide (g<c.AG.length)) (bd (at? c.AG g) fun a=>gd (an e+[a.Id,a.Ab,w64 (a.Bu+1),a.BE,a.DJ,a.Since,a.A0,a.State,a.C7,a.Dh].length<=lim) (h (e++[a.Id,a.Ab,w64 (a.Bu+1),a.BE,a.DJ,a.Since,a.A0,a.State,a.C7,a.Dh],w64 (g+1)))) (jn (Aqf c) e)
def qF(a:AE):AA PUnit:=bd (Rh a) fun e=>br (!e) (some ()) (bd (AJn a.AQ) fun c=>gd ([(↑(an c):Int)].length+an c<=lim) (gd (([(↑(an c):Int)]++c).length+[a.Now,a.A0,(↑a.AG.length:Int)].length<=lim) (BD (Aqi a) big ([(↑(an c):Int)]++c++[a.Now,a.A0,(↑a.AG.length:Int)],0))))
def vq:GF:=AsF.EI (Bc qF)
def Ajk:YF:=⟨[],[.v (.st 8),.v .i],[],.ret [.s],[.tmp 4],sq [qu 2 0,.as 4 (.k (.str []))] [1,2] (sr [wn 8 [wk 15 2,wY vq rfl],qn [qa 5 9]] [1,5] (.seq (sr [wn 10 [wm 5,wh (.bin · .sl .eql (.tmp 10) (.k .nil)),wM],wf 12 13 [wm 1,wc Et rfl [13,qj 0,qj 1000000],wX],qn [qp 16 12 15]] [1,5,16] (cn 16 [1,5] (sq [.as 4 (.k (.str []))] [4] .ret))) (.seq (.VE (.op 0 none [] (.mv 17 (.tmp 1)) (.op 3 none [] (.mv 20 (.tmp 5)) (qd 1 [wn 18 [wY AFy rfl,wh (.Ox · (.tmp 18))]] (.op 4 none [18] (.call 21 AFz [] rfl [(.tmp 20)]) (qd 5 [qn [qb 22 .add 19 21,qa 6 22]] .nil))))) [6]) (sr [wn 23 [wm 6,wh (.MY · (.tmp 23)),wY AF0 rfl],qn [qa 7 25]] [6,7] (sr [wn 26 [wm 7,wh (.bin · .num .shr (.tmp 26) (.k (.int .u64 24))),wh (.cvI · .u8 (.tmp 27)),wm 7,wh (.bin · .num .shr (.tmp 29) (.k (.int .u64 16))),wh (.cvI · .u8 (.tmp 30)),wm 7,wh (.bin · .num .shr (.tmp 32) (.k (.int .u64 8))),wh (.cvI · .u8 (.tmp 33)),wm 7,wh (.cvI · .u8 (.tmp 35)),wh (.CF · 4 .u [(0,(.tmp 28)),(1,(.tmp 31)),(2,(.tmp 34)),(3,(.tmp 36))]),wh (.Ox · (.tmp 37)),wm 6,wB .add 38],qn [qa 4 40]] [4] .ret)))))⟩
def qG(a:AE)(c:Int):AA (List UInt8):=bd (qF a) fun e=>some []
def vr:GF:=Ajk.EI (A4 qG)
def ABB(a:AE)(c:Int):AA (List UInt8):=orE (ABA a c) (qG a c)
def AF2:GF:=AF1.orE (fun a=>ABB a.1 a.2.1) (fun a=>qG a.1 a.2.1) (fun a=>by kernel_rfl) (fun a r h=>Eq.mp (by kernel_rfl) (vr.ok a r h))
def Aoa(a:List Int):AA (List Int):=some a
def Amn(h:AE)(g:List Int×Int->AA (List Int))(j:List Int×Int):AA (List Int):=let (a,c):=j;br (decide (c<h.A9.length)) (bd (at? h.A9 c) fun e=>gd (an a+[w64 (e+1)].length<=lim) (g (a++[w64 (e+1)],w64 (c+1)))) (jn Aoa a)
def Al7(c:AE)(a:List Int):AA (List Int):=gd (a.length+[(↑c.BB.length:Int)].length<=lim) (gd ((a++[(↑c.BB.length:Int)]).length+c.BB.length<=lim) (BD (Amn c) big (a++[(↑c.BB.length:Int)]++c.BB,0)))
def Amm(e:AE)(h:List Int×Int->AA (List Int))(j:List Int×Int):AA (List Int):=let (g,a):=j;br (decide (a<e.AH.length)) (bd (at? e.AH a) fun c=>gd (an g+[c.AY.Dv].length<=lim) (h (g++[c.AY.Dv],w64 (a+1)))) (jn (Al7 e) g)
def AAm(a:AE)(c:List Int):AA (List Int):=BD (Amm a) big (c,0)
def AAn(c:AE)(h:List Int×Int->AA (List Int))(j:List Int×Int):AA (List Int):=let (e,g):=j;br (decide (g<c.AG.length)) (bd (at? c.AG g) fun a=>gd (an e+[a.Id,a.Ab,w64 (a.Bu+1),a.BE,a.DJ,a.Since,a.A0,a.State,a.C7,a.Dh].length<=lim) (h (e++[a.Id,a.Ab,w64 (a.Bu+1),a.BE,a.DJ,a.Since,a.A0,a.State,a.C7,a.Dh],w64 (g+1)))) (jn (AAm c) e)
def WR(a:AE):AA (List Int):=bd (Rh a) fun e=>br (!e) (some []) (bd (AJn a.AQ) fun c=>gd ([(↑(an c):Int)].length+an c<=lim) (gd (([(↑(an c):Int)]++c).length+[a.Now,a.A0,(↑a.AG.length:Int)].length<=lim) (BD (AAn a) big ([(↑(an c):Int)]++c++[a.Now,a.A0,(↑a.AG.length:Int)],0))))
def VO:=gZ Xi Al5 DA ["2fDJesrmNAz8e4Xu8e6NzyNPIhoxEUJOmVRy9h7KSkIJOsEeu1UpvpjFTXEgTUVCBa3xdtHWs0KxSmhe","1OXPVaWOHP9ovzr5drvoV41Ubgbo3VGbiidlxkz68dZvZC37GRiAeabzPsc6vNrJw9Gbk3paaXV9YXaf","Tm6eMTxgzTbNPATOvGcbHgw7bCoyGMC0jqog8I1kxErJIzyzgn2x46xPwrluqk4lKXUOfGu6dFvh3c5L","AM4l15x4JmLH5qB2l7WeiiBk6vWDozhcj4m7VjZmRReLB2PfNBUCO9jiiDTyPfnavj06SEDbAu7Sdpis","AiADtzwnJGu5B"] [Qs,ARK] (Bc WR)
def AAo(a:Aa):AA Aa:=gd (0+a.AY.length<=lim) (some (Aa.mk ([]++a.AY) a.CS a.Room a.BE a.CE a.Bz a.Rest a.CY a.Cu))
def lE:=gZ Su N0 AoX ["bT2xzrvytR9RlipZtCTx8pNtDp"] [] (Bc AAo)
def AAq(a:Int):AA (BI×Bool):=bd (AFR (BI.mk a 0 0 a 0)) fun c=>br (!c) (some (BI.mk 0 0 0 0 0,false)) (some (BI.mk a 0 0 a 0,true))
def lF:=gZ mI AbN [.cell 2 (some 5),.tmp 3] ["2HSmAqtwLZxZv2mBP22AgboPP3L1DmhydvC60s5FqUcMx"] [ADW] (Bc AAq)
def AaQ:YF:=⟨[],[],[],.ret [(.st 6)],[.cell 0 (some 1)],dY ["9TtFa6he9jjBm9V4xOefvPGXOBmTmUu33DEL6TQu9POURhQXFNHoyB6nrgvNKtNyZHb2Ew7"] []⟩
def AiE(a:Aw):AA Aw:=some a
def AiH(e:Int×Aw->AA Aw)(g:Int×Aw):AA Aw:=let (c,a):=g;br (decide (c<9)) (gd (a.Ar.length+1<=lim) (e (w64 (c+1),Aw.mk (a.Ar++[[]])))) (jn AiE a)
def pz:AA Aw:=BD AiH big (0,Aw.mk [])
def AFm:GF:=AaQ.gf rfl rfl (fun a=>pz) (fun a=>by kernel_rfl)
def AQP(c:Int):AA (Ae×Bool):=bd (AAq c) fun a=>br (!a.snd) (some (Ae.mk (BI.mk 0 0 0 0 0) [] (Aw.mk []),false)) (bd pz fun e=>some (Ae.mk a.fst [] e,true))
def AFn:=gZ mI (.ret [(.st 7),.b]) [.cell 2 (some 7),.tmp 3] ["9W4ub4n4yPEPjncTNbwqJd9d8FW00mUyPC5Fa7ZrNVLnWdwYfrkfSrKXhEwsQEiWt"] [lF,AFm] (Bc AQP)
def Aoc(a:AE):AA (AE×Bool):=some (a,true)
def Aoe(g:Aa)(e:Int×AE->AA (AE×Bool))(h:Int×AE):AA (AE×Bool):=let (c,a):=h;br (decide (c<g.Cu)) (gd (a.A9.length+[-1].length<=lim) (e (w64 (c+1),AE.mk a.AQ a.Now a.A0 a.AG a.AH a.BB (a.A9++[-1])))) (jn Aoc a)
def Aob(a:Aa)(c:AE):AA (AE×Bool):=BD (Aoe a) big (0,c)
def Aod(c:Aa)(h:Int×AE->AA (AE×Bool))(q:Int×AE):AA (AE×Bool):=let (e,a):=q;br (decide (e<c.AY.length)) (bd (at? c.AY e) fun j=>bd (AQP j) fun g=>gd (a.AH.length+[g.fst].length<=lim) (h (w64 (e+1),AE.mk a.AQ a.Now a.A0 a.AG (a.AH++[g.fst]) a.BB a.A9))) (jn (Aob c) a)
def AJi(a:Aa):AA (AE×Bool):=bd (ue a) fun c=>br (!c) (some (AE.mk (Aa.mk [] 0 0 0 0 0 0 0 0) 0 0 [] [] [] [],false)) (bd (AAo a) fun e=>BD (Aod a) big (0,AE.mk e 0 1 [] [] [] []))
def AFo:=gZ Su (.ret [(.st 8),.b]) AoY ["khswdDkfedwtj69kqQ8GpoCOgBSTdQd2mC2kq6cCUntfgxhKPUezPCA18SdHLOcxBTxeuR2izCTGwMuM","WnnkRKbWn4td6hfd2LNi3PIIWS2fDGrRSmx2GvhDhmKRbgXvgzmR14JtTlCzmkwRTz0SNOUAzbFMxu6U","o5kZew3UBJy7exZwNqA"] [bU,lE,AFn] (Bc AJi)
def qA(a:List Int):AA (List Int):=gd (0+a.length<=lim) (some a)
def AFp:=gZ [.v (.l .i)] Al5 DA ["7lFQB71gbR5IM"] [] (Bc qA)
def AJj(a:Aa):AA Aa:=bd (qA a.AY) fun c=>some (Aa.mk c a.CS a.Room a.BE a.CE a.Bz a.Rest a.CY a.Cu)
def AFq:=gZ Su N0 AoX ["ffVIaF31nfZD6EAHXOR7tk"] [AFp] (Bc AJj)
def Gy(a:Int):AA (BI×Bool):=bd (MC (BI.mk a 0 0 a 0)) fun c=>br (!c) (some (BI.mk 0 0 0 0 0,false)) (some (BI.mk a 0 0 a 0,true))
def vg:=gZ mI AbN [.cell 2 (some 5),.tmp 3] ["2HSmAqtwLZxZv2mBP22AgboPP3L1DmhydvC60s5FqUcMx"] [Oz] (Bc Gy)
def Ajj:YF:=⟨[],[],[],.ret [(.st 6)],[.cell 0 (some 1)],dY ["EsLjhJ6rkDEVDQcnKR80"] [] [.Ry 1 (.l (.st 5)) (.k (.int .i64 9))]⟩
def AJk:AA Aw:=some (Aw.mk (List.replicate (Int.toNat 9) []))
def AFr:GF:=Ajj.gf rfl rfl (fun a=>AJk) (fun a=>by kernel_rfl)
def ABJ(c:Int):AA (Ae×Bool):=bd (Gy c) fun a=>br (!a.snd) (some (Ae.mk (BI.mk 0 0 0 0 0) [] (Aw.mk []),false)) (bd AJk fun e=>some (Ae.mk a.fst [] e,true))
def wA:=gZ mI (.ret [(.st 7),.b]) [.cell 2 (some 7),.tmp 3] ["9W4ub4n4yPEPjncTNbwqJd9d8FW00mUyPC5Fa7ZrNVLnWdwYfrkfSrKXhEwsQEiWt"] [vg,AFr] (Bc ABJ)
def Afk(a:AE):AA (AE×Bool):=some (a,true)
def Afm(g:Aa)(e:Int×AE->AA (AE×Bool))(h:Int×AE):AA (AE×Bool):=let (c,a):=h;br (decide (c<g.Cu)) (gd (a.A9.length+[-1].length<=lim) (e (w64 (c+1),AE.mk a.AQ a.Now a.A0 a.AG a.AH a.BB (a.A9++[-1])))) (jn Afk a)
def Afj(a:Aa)(c:AE):AA (AE×Bool):=BD (Afm a) big (0,c)
def Afl(c:Aa)(h:Int×AE->AA (AE×Bool))(q:Int×AE):AA (AE×Bool):=let (e,a):=q;br (decide (e<c.AY.length)) (bd (at? c.AY e) fun j=>bd (ABJ j) fun g=>gd (a.AH.length+[g.fst].length<=lim) (h (w64 (e+1),AE.mk a.AQ a.Now a.A0 a.AG (a.AH++[g.fst]) a.BB a.A9))) (jn (Afj c) a)
def AJr(a:Aa):AA (AE×Bool):=bd (WM a) fun c=>br (!c) (some (AE.mk (Aa.mk [] 0 0 0 0 0 0 0 0) 0 0 [] [] [] [],false)) (bd (AJj a) fun e=>BD (Afl a) big (0,AE.mk e 0 1 [] [] [] []))
def AF7:=gZ Su (.ret [(.st 8),.b]) AoY ["W48ZCEb4LTVqNySg2V3dOceCxA7jrIbiFgJ9d3UsZYRNliqjlKCHDSGir4XNY0qs8VlE4UNCmNR2jm23","trLNc5FbXlZbEsEp4wGDwUm048fNhIexLNlbiV66F5LFqjIagmuqsUscmcGHrqVKq1VwAG01rHs6IZUG","1bA1uzOdULPFOHGvPAubaUuvz2"] [So,AFq,wA] (Bc AJr)
def ABM(a:Bp):AA Bp:=bd (Pg a) fun c=>br (!c) (some a) (some (Bp.mk a.Data (↑a.Data.length:Int)))
def wD:=gZ [.v (.st 9)] ApF [.cell 2 (some 2)] ["RWiRITAN7pZfNRfwQOJ7ptQOBwHWJo1Fg5a"] [Qt] (Bc ABM)
def AJs(c:Aa):AA (Ap×Bool):=bd (AJr c) fun a=>br (!a.snd) (some (Ap.mk (AE.mk (Aa.mk [] 0 0 0 0 0 0 0 0) 0 0 [] [] [] []) (BZ.mk (Bp.mk [] 0) (Bp.mk [] 0) (Bp.mk [] 0)) 0 [],false)) (bd (ABB a.fst 0) fun e=>bd (ABM (Bp.mk e 0)) fun g=>some (Ap.mk a.fst (BZ.mk (Bp.mk [] 0) g (Bp.mk [] 0)) 0 [],true))
def ARO:=gZ Su Agn Agq ["2GDtUhuWnRysivQN5WZnHsqi8GbSWKFRSqHA51jOel0e840CQ31as3eZc3n7xflstFRU6ssJy86axb52","A"] [AF7,AF2,wD] (Bc AJs)
def KK(c:Aa):AA (Cf×Bool):=bd (AJs c) fun a=>br (!a.snd) (some (Cf.mk (Ap.mk (AE.mk (Aa.mk [] 0 0 0 0 0 0 0 0) 0 0 [] [] [] []) (BZ.mk (Bp.mk [] 0) (Bp.mk [] 0) (Bp.mk [] 0)) 0 []) [] [] 0,false)) (some (Cf.mk a.fst [] [] 0,true))
def Sp:=gZ Su (.ret [(.st 13),.b]) [.cell 2 (some 26),.tmp 3] ["I56689xRgoltAOqxtsfhqn5l6bUXaIe6aJGDde4h9A4f2JSZZuqKOUzNOHERw"] [ARO] (Bc KK)
end Lv
set_option maxRecDepth 100000
namespace Lv
open Go (IntKind BinOp UnOp)
open Y (YF qn qf qt qr q1 qd qm qa qo ql qL qb qi qx qp qq qc qz qe qk qK qB qw qu qj Kp wn wf wt w1 sw sq sr wm wM wo wO wl wL wk wK wz wZ wx wX wb wB wi wI wr wR wq wQ we wE wc wY wj wh cv ca cx cn ce bl)
def Aoi(a:Aw):AA Aw:=some a
def Aoj(g:Aw)(h:Int×Aw->AA Aw)(j:Int×Aw):AA Aw:=let (a,c):=j;br (decide (a<g.Ar.length)) (bd (at? g.Ar a) fun e=>gd (0+an e<=lim) (gd (c.Ar.length+[[]++e].length<=lim) (h (w64 (a+1),Aw.mk (c.Ar++[[]++e]))))) (jn Aoi c)
def qI(a:Aw):AA Aw:=BD (Aoj a) big (0,Aw.mk [])
def wF:=gZ Zc (.ret [(.st 6)]) [.cell 2 (some 1)] ["KSP5qFlMPXPU4dcnQcVMrKZx2KCKXoMKUWZGZThDAC1FM54YoL0qOrZJTK4L7371FP5GuiMSPe7SvI03","5bM6UfuWWPsO9l25P9DE"] [] (Bc qI)
def AJt(a:Ae):AA Ae:=bd (ux a.Row) fun c=>bd (qI a.By) fun e=>some (Ae.mk a.AY c e)
def ARP:=gZ xR (.ret [(.st 7)]) [.cell 2 (some 7)] ["2GDjXt28AZutlfwUl6ZTumbUuAi6sKT4V7t4GzXyeHr"] [ADX,wF] (Bc AJt)
def Aml:Y.YOp []:=.app 19 .i true (.tmp 16) (.tmp 18)
def AlX:Y.YOp []:=.app 15 (.st 2) true (.tmp 12) (.tmp 14)
def z5:Y.YOp []:=.call 7 lE [] rfl [(.tmp 6)]
def ApI:Y.Bw []:=(.op 21 none [] (.st 15 (.tmp 3) (.tmp 24)) (.dr [5,6,7,8,9,10,11,12,13,14,15,16,17,18,19,20,21,22,23,24] .nil))
def Asa:=fun a=>((.op 20 none [5,8,10,13,17,21] (.alloc 3 Ee) (.nl [(.cell 3 0,.i),(.cell 3 11,(.st 2)),(.cell 3 12,(.st 7)),(.cell 3 13,.i),(.cell 3 14,.i)] a)):Y.Bw [])
def Ar1:Y.Bw []:=Asa ApI
def Asb:=fun a=>((.op 19 none [] (.build 24 Ee [(0,9,(.tmp 7)),(9,1,(.tmp 9)),(10,1,(.tmp 11)),(11,1,(.tmp 15)),(13,1,(.tmp 19)),(14,1,(.tmp 23))]) (.nl [(.tmp 24 12,(.st 7))] a)):Y.Bw [])
def Ar2:Y.Bw []:=Asb Ar1
def Ar3:Y.Bw []:=(.op 18 none [8,10] (.app 23 .i true (.tmp 20) (.tmp 22)) Ar2)
def Ar4:Y.Bw []:=Asb ApI
def AoZ:Y.Bw []:=(.op 18 none [8,10] (.app 23 .i true (.tmp 20) (.tmp 22)) Ar4)
def Ar5:Y.Bw []:=Asa AoZ
def Asd:=fun a b=>((.both 1 a b):Y.Bw [])
def ApJ:Y.Bw []:=Asd Ar3 Ar5
def Ase:=fun a b c=>((.op a none [5,8,10,13,17,21] (.CF b 0 .i []) c):Y.Bw [])
def Ar6:Y.Bw []:=Ase 15 20 ApJ
def ApK:Y.Bw []:=Ase 15 20 AoZ
def Aqu:Y.Bw []:=Asa ApK
def Aqv:Y.Bw []:=Asd Ar6 Aqu
def Asf:=fun a=>((.op 14 none [8,10,21] Aml a):Y.Bw [])
def Aqw:Y.Bw []:=Asf Aqv
def Aqx:Y.Bw []:=Asf ApJ
def AmN:Y.Bw []:=Asf AoZ
def Aqy:Y.Bw []:=Asa AmN
def Anr:Y.Bw []:=Asd Aqx Aqy
def Aqz:Y.Bw []:=Ase 15 20 Anr
def Aq0:Y.Bw []:=Asf ApK
def Aq1:Y.Bw []:=Ase 15 20 AmN
def Ans:Y.Bw []:=Asd Aq0 Aq1
def Aq2:Y.Bw []:=Asa Ans
def Aq3:Y.Bw []:=Asd Aqz Aq2
def Ao7:Y.Bw []:=Asd Aqw Aq3
def Aq4:Y.Bw []:=Ase 11 16 Ao7
def Aq5:Y.Bw []:=Ase 11 16 Anr
def Ant:Y.Bw []:=Ase 11 16 AmN
def Aq6:Y.Bw []:=Asa Ant
def Ao8:Y.Bw []:=Asd Aq5 Aq6
def Aq7:Y.Bw []:=Ase 15 20 Ao8
def Aq8:Y.Bw []:=Ase 11 16 Ans
def Aq9:Y.Bw []:=Ase 15 20 Ant
def Ao9:Y.Bw []:=Asd Aq8 Aq9
def ArA:Y.Bw []:=Asa Ao9
def ArB:Y.Bw []:=Asd Aq7 ArA
def ArC:Y.Bw []:=Asd Aq4 ArB
def Asg:=fun a=>((.op 10 none [8,10,17,21] AlX a):Y.Bw [])
def ArD:Y.Bw []:=Asg ArC
def ArE:Y.Bw []:=Asg Ao7
def ArF:Y.Bw []:=Asg Anr
def Alz:Y.Bw []:=Asg AmN
def ArG:Y.Bw []:=Asa Alz
def AmO:Y.Bw []:=Asd ArF ArG
def ArH:Y.Bw []:=Ase 15 20 AmO
def ArI:Y.Bw []:=Asg Ans
def ArJ:Y.Bw []:=Ase 15 20 Alz
def AmP:Y.Bw []:=Asd ArI ArJ
def ArK:Y.Bw []:=Asa AmP
def ArL:Y.Bw []:=Asd ArH ArK
def Anu:Y.Bw []:=Asd ArE ArL
def ArM:Y.Bw []:=Ase 11 16 Anu
def ArN:Y.Bw []:=Asg Ao8
def ArO:Y.Bw []:=Ase 11 16 AmO
def ArP:Y.Bw []:=Asg Ant
def ArQ:Y.Bw []:=Ase 11 16 Alz
def AmQ:Y.Bw []:=Asd ArP ArQ
def ArR:Y.Bw []:=Asa AmQ
def ArS:Y.Bw []:=Asd ArO ArR
def Anv:Y.Bw []:=Asd ArN ArS
def ArT:Y.Bw []:=Ase 15 20 Anv
def ArU:Y.Bw []:=Asg Ao9
def ArV:Y.Bw []:=Ase 11 16 AmP
def ArW:Y.Bw []:=Ase 15 20 AmQ
def ArX:Y.Bw []:=Asd ArV ArW
def Anw:Y.Bw []:=Asd ArU ArX
def ArY:Y.Bw []:=Asa Anw
def ArZ:Y.Bw []:=Asd ArT ArY
def Ara:Y.Bw []:=Asd ArM ArZ
def ApA:Y.Bw []:=Asd ArD Ara
def Ash:=fun a=>((.op 7 none [5,8,10,13,17,21] (.CF 12 0 (.st 2) []) a):Y.Bw [])
def Arb:Y.Bw []:=Ash ApA
def Arc:Y.Bw []:=Ash Anu
def Ard:Y.Bw []:=Ash AmO
def AmR:Y.Bw []:=Ash Alz
def Are:Y.Bw []:=Asa AmR
def Anx:Y.Bw []:=Asd Ard Are
def Arf:Y.Bw []:=Ase 15 20 Anx
def Arh:Y.Bw []:=Ash AmP
def Ari:Y.Bw []:=Ase 15 20 AmR
def Anz:Y.Bw []:=Asd Arh Ari
def Arj:Y.Bw []:=Asa Anz
def Ark:Y.Bw []:=Asd Arf Arj
def ApB:Y.Bw []:=Asd Arc Ark
def Arl:Y.Bw []:=Ase 11 16 ApB
def Arm:Y.Bw []:=Ash Anv
def Arn:Y.Bw []:=Ase 11 16 Anx
def Aro:Y.Bw []:=Ash AmQ
def Arp:Y.Bw []:=Ase 11 16 AmR
def An0:Y.Bw []:=Asd Aro Arp
def Arq:Y.Bw []:=Asa An0
def Arr:Y.Bw []:=Asd Arn Arq
def ApC:Y.Bw []:=Asd Arm Arr
def Ars:Y.Bw []:=Ase 15 20 ApC
def Art:Y.Bw []:=Ash Anw
def Aru:Y.Bw []:=Ase 11 16 Anz
def Arv:Y.Bw []:=Ase 15 20 An0
def Arw:Y.Bw []:=Asd Aru Arv
def ApD:Y.Bw []:=Asd Art Arw
def Arx:Y.Bw []:=Asa ApD
def Ary:Y.Bw []:=Asd Ars Arx
def Arz:Y.Bw []:=Asd Arl Ary
def Ar0:Y.Bw []:=Asd Arb Arz
def Asi:=fun a=>((.op 2 none [8,10,13,17,21] z5 a):Y.Bw [])
def ApL:Y.Bw []:=Asi Ar0
def ApM:Y.Bw []:=Asi ApA
def ApN:Y.Bw []:=Asi Anu
def ApO:Y.Bw []:=Asi AmO
def Al1:Y.Bw []:=Asi Alz
def ApP:Y.Bw []:=Asa Al1
def Amh:Y.Bw []:=Asd ApO ApP
def ApQ:Y.Bw []:=Ase 15 20 Amh
def ApR:Y.Bw []:=Asi AmP
def ApS:Y.Bw []:=Ase 15 20 Al1
def Ami:Y.Bw []:=Asd ApR ApS
def ApT:Y.Bw []:=Asa Ami
def ApU:Y.Bw []:=Asd ApQ ApT
def AoP:Y.Bw []:=Asd ApN ApU
def ApV:Y.Bw []:=Ase 11 16 AoP
def ApW:Y.Bw []:=Asi Anv
def ApX:Y.Bw []:=Ase 11 16 Amh
def ApY:Y.Bw []:=Asi AmQ
def ApZ:Y.Bw []:=Ase 11 16 Al1
def Amj:Y.Bw []:=Asd ApY ApZ
def Apa:Y.Bw []:=Asa Amj
def Apb:Y.Bw []:=Asd ApX Apa
def AoQ:Y.Bw []:=Asd ApW Apb
def Apc:Y.Bw []:=Ase 15 20 AoQ
def Apd:Y.Bw []:=Asi Anw
def Ape:Y.Bw []:=Ase 11 16 Ami
def Apf:Y.Bw []:=Ase 15 20 Amj
def Apg:Y.Bw []:=Asd Ape Apf
def AoR:Y.Bw []:=Asd Apd Apg
def Aph:Y.Bw []:=Asa AoR
def Api:Y.Bw []:=Asd Apc Aph
def Apj:Y.Bw []:=Asd ApV Api
def Apk:Y.Bw []:=Asd ApM Apj
def Apl:Y.Bw []:=Ash Apk
def Apm:Y.Bw []:=Asi ApB
def Apn:Y.Bw []:=Ash AoP
def Apo:Y.Bw []:=Asi Anx
def Apq:Y.Bw []:=Ash Amh
def Apr:Y.Bw []:=Asi AmR
def Aps:Y.Bw []:=Ash Al1
def Amk:Y.Bw []:=Asd Apr Aps
def Apt:Y.Bw []:=Asa Amk
def Apu:Y.Bw []:=Asd Apq Apt
def AoS:Y.Bw []:=Asd Apo Apu
def Apv:Y.Bw []:=Ase 15 20 AoS
def Apw:Y.Bw []:=Asi Anz
def Apx:Y.Bw []:=Ash Ami
def Apy:Y.Bw []:=Ase 15 20 Amk
def Apz:Y.Bw []:=Asd Apx Apy
def AoT:Y.Bw []:=Asd Apw Apz
def Ap0:Y.Bw []:=Asa AoT
def Ap1:Y.Bw []:=Asd Apv Ap0
def Ap2:Y.Bw []:=Asd Apn Ap1
def Ap3:Y.Bw []:=Asd Apm Ap2
def Ap4:Y.Bw []:=Ase 11 16 Ap3
def Ap5:Y.Bw []:=Asi ApC
def Ap6:Y.Bw []:=Ash AoQ
def Ap7:Y.Bw []:=Ase 11 16 AoS
def Ap8:Y.Bw []:=Asi An0
def Ap9:Y.Bw []:=Ash Amj
def AqA:Y.Bw []:=Ase 11 16 Amk
def AqB:Y.Bw []:=Asd Ap9 AqA
def AoU:Y.Bw []:=Asd Ap8 AqB
def AqC:Y.Bw []:=Asa AoU
def AqD:Y.Bw []:=Asd Ap7 AqC
def AqE:Y.Bw []:=Asd Ap6 AqD
def AqF:Y.Bw []:=Asd Ap5 AqE
def AqG:Y.Bw []:=Ase 15 20 AqF
def AqH:Y.Bw []:=Asi ApD
def AqI:Y.Bw []:=Ash AoR
def AqJ:Y.Bw []:=Ase 11 16 AoT
def AqK:Y.Bw []:=Ase 15 20 AoU
def AqL:Y.Bw []:=Asd AqJ AqK
def AqM:Y.Bw []:=Asd AqI AqL
def AqN:Y.Bw []:=Asd AqH AqM
def AqO:Y.Bw []:=Asa AqN
def AqP:Y.Bw []:=Asd AqG AqO
def AqQ:Y.Bw []:=Asd Ap4 AqP
def AqR:Y.Bw []:=Asd Apl AqQ
def AqS:Y.Bw []:=Asd ApL AqR
def AqT:Y.Bw []:=(.op 17 none [] (.ld 22 none (.tmp 21)) AqS)
def AqU:Y.Bw []:=(.op 16 none [] (.fa 21 14 (.tmp 1)) AqT)
def AqV:Y.Bw []:=(.op 13 none [] (.ld 18 none (.tmp 17)) AqU)
def AqW:Y.Bw []:=(.op 12 none [] (.fa 17 13 (.tmp 1)) AqV)
def AqX:Y.Bw []:=(.op 9 none [] (.ld 14 none (.tmp 13)) AqW)
def AqY:Y.Bw []:=(.op 8 none [] (.fa 13 11 (.tmp 1)) AqX)
def AqZ:Y.Bw []:=(.op 6 none [] (.ld 11 none (.tmp 10)) AqY)
def Aqa:Y.Bw []:=(.op 5 none [] (.fa 10 10 (.tmp 1)) AqZ)
def Aqb:Y.Bw []:=(.op 4 none [] (.ld 9 none (.tmp 8)) Aqa)
def Aqc:Y.Bw []:=(.op 3 none [] (.fa 8 9 (.tmp 1)) Aqb)
def Aqd:Y.Bw []:=(.op 1 none [] (.ld 6 (some 9) (.tmp 5)) Aqc)
def Aqe:Y.Bw []:=(.op 0 none [] (.fa 5 0 (.tmp 1)) Aqd)
def Aab:YF:=⟨[],[.v (.st 8)],[],.ret [(.st 8)],[.cell 2 (some 15)],sq [qu 1 0,.alloc 2 Ee,.VZ [(.cell 2 0,.i),(.cell 2 11,(.st 2)),(.cell 2 12,(.st 7)),(.cell 2 13,.i),(.cell 2 14,.i)]] [1,2] (.seq (.VE Aqe [1,2,3]) (.join [cx 3 (.st 8)] (sq [qK 4 0] (Kp 30) (bl 0 [cv 4 .i,cx 3 (.st 8)] (.seq (sw 25 [wm 4,wo 12 1,wL,wZ,wB .lss 25] (Kp 536870942) (ce 29 (Kp 30) [2,3] 0)) (.seq (.block 1 (.VE (qd 0 [wn 32 [wo 12 3,wL,wo 12 1,wL,wm 4,wE (.st 7) 35,wK 7]] (.op 7 none [32] (.call 39 ARP [] rfl [(.tmp 38)]) (.op 8 none [32] (.CF 40 1 (.st 7) [(0,(.tmp 39))]) (qd 9 [wn 41 [wh (.app · (.st 7) false (.tmp 33) (.tmp 40)),wo 12 3],qn [qw 1 42 41]] .nil)))) [1,2,3,4])) (qr [wn 30 [wm 4,wI .add 1],qn [qa 4 31]] (Kp 30)))))) (sq [qL 43 15 3,qw 15 2 43] [2] .ret)))⟩
def K2(a:AE)(c:Aa)(X2:AA AE):AA AE:=gd (0+a.A9.length<=lim) (CU c c (ev6 a.Now a.A0 ([]++a.AG) ([]:List Ae) ([]++a.BB) ([]++a.A9) X2))
def Ch(a:AE)(c:Aa)(X4:AA AE):AA AE:=gd (0+a.BB.length<=lim) (gd (0+a.A9.length<=lim) (CU c c (ev6 a.Now a.A0 ([]++a.AG) ([]:List Ae) ([]++a.BB) ([]++a.A9) X4)))
def Aok(a:AE)(c:Aa)(X5:AA AE):AA AE:=gd (0+a.BB.length<=lim) (gd (0+a.A9.length<=lim) (alt (Ch a c) (CU c c (ev6 a.Now a.A0 ([]++a.AG) ([]:List Ae) ([]++a.BB) ([]++a.A9) X5))))
def Ak0(a:AE)(c:Aa)(X3:AA AE):AA AE:=gd (0+a.BB.length<=lim) (gd (0+a.A9.length<=lim) (alt (K2 a c) (alt (Ch a c) (alt (Aok a c) (CU c c (ev6 a.Now a.A0 ([]++a.AG) ([]:List Ae) ([]++a.BB) ([]++a.A9) X3))))))
def Aol(a:AE)(c:Aa)(X7:AA AE):AA AE:=gd (0+a.BB.length<=lim) (gd (0+a.A9.length<=lim) (alt (Ch a c) (alt (Ch a c) (CU c c (ev6 a.Now a.A0 ([]++a.AG) ([]:List Ae) ([]++a.BB) ([]++a.A9) X7)))))
def Amo(a:AE)(c:Aa)(X6:AA AE):AA AE:=gd (0+a.BB.length<=lim) (gd (0+a.A9.length<=lim) (alt (K2 a c) (alt (Ch a c) (alt (Ch a c) (alt (Aol a c) (CU c c (ev6 a.Now a.A0 ([]++a.AG) ([]:List Ae) ([]++a.BB) ([]++a.A9) X6)))))))
def K1(a:AE)(c:Aa)(X10:AA AE):AA AE:=gd (0+a.AG.length<=lim) (gd (0+a.BB.length<=lim) (gd (0+a.A9.length<=lim) (CU c c (ev6 a.Now a.A0 ([]++a.AG) ([]:List Ae) ([]++a.BB) ([]++a.A9) X10))))
def An1(a:AE)(c:Aa)(X11:AA AE):AA AE:=gd (0+a.AG.length<=lim) (gd (0+a.BB.length<=lim) (gd (0+a.A9.length<=lim) (alt (Ch a c) (alt (K1 a c) (CU c c (ev6 a.Now a.A0 ([]++a.AG) ([]:List Ae) ([]++a.BB) ([]++a.A9) X11))))))
def Alf(a:AE)(c:Aa)(X9:AA AE):AA AE:=gd (0+a.AG.length<=lim) (gd (0+a.BB.length<=lim) (gd (0+a.A9.length<=lim) (alt (K2 a c) (alt (Ch a c) (alt (K1 a c) (alt (An1 a c) (CU c c (ev6 a.Now a.A0 ([]++a.AG) ([]:List Ae) ([]++a.BB) ([]++a.A9) X9))))))))
def AmS(a:AE)(c:Aa)(X14:AA AE):AA AE:=gd (0+a.AG.length<=lim) (gd (0+a.BB.length<=lim) (gd (0+a.A9.length<=lim) (alt (K1 a c) (CU c c (ev6 a.Now a.A0 ([]++a.AG) ([]:List Ae) ([]++a.BB) ([]++a.A9) X14)))))
def Ak7(a:AE)(c:Aa)(X13:AA AE):AA AE:=gd (0+a.AG.length<=lim) (gd (0+a.BB.length<=lim) (gd (0+a.A9.length<=lim) (alt (K2 a c) (alt (Ch a c) (alt (K1 a c) (alt (AmS a c) (CU c c (ev6 a.Now a.A0 ([]++a.AG) ([]:List Ae) ([]++a.BB) ([]++a.A9) X13))))))))
def Ak8(a:AE)(c:Aa)(X16:AA AE):AA AE:=gd (0+a.AG.length<=lim) (gd (0+a.BB.length<=lim) (gd (0+a.A9.length<=lim) (alt (Ch a c) (alt (K1 a c) (alt (AmS a c) (CU c c (ev6 a.Now a.A0 ([]++a.AG) ([]:List Ae) ([]++a.BB) ([]++a.A9) X16)))))))
def An3(a:AE)(c:Aa)(X15:AA AE):AA AE:=gd (0+a.AG.length<=lim) (gd (0+a.BB.length<=lim) (gd (0+a.A9.length<=lim) (alt (Ch a c) (alt (Ch a c) (alt (Ak8 a c) (CU c c (ev6 a.Now a.A0 ([]++a.AG) ([]:List Ae) ([]++a.BB) ([]++a.A9) X15)))))))
def An2(a:AE)(c:Aa)(X12:AA AE):AA AE:=gd (0+a.AG.length<=lim) (gd (0+a.BB.length<=lim) (gd (0+a.A9.length<=lim) (alt (K2 a c) (alt (Ch a c) (alt (Ch a c) (alt (Ak7 a c) (alt (An3 a c) (CU c c (ev6 a.Now a.A0 ([]++a.AG) ([]:List Ae) ([]++a.BB) ([]++a.A9) X12)))))))))
def Amp(a:AE)(c:Aa)(X8:AA AE):AA AE:=gd (0+a.AG.length<=lim) (gd (0+a.BB.length<=lim) (gd (0+a.A9.length<=lim) (alt (K2 a c) (alt (K2 a c) (alt (Ak0 a c) (alt (Alf a c) (alt (An2 a c) (CU c c (ev6 a.Now a.A0 ([]++a.AG) ([]:List Ae) ([]++a.BB) ([]++a.A9) X8)))))))))
def An5(a:AE)(c:Aa)(X19:AA AE):AA AE:=gd (0+a.AG.length<=lim) (gd (0+a.BB.length<=lim) (gd (0+a.A9.length<=lim) (alt (Ch a c) (alt (K1 a c) (alt (K1 a c) (CU c c (ev6 a.Now a.A0 ([]++a.AG) ([]:List Ae) ([]++a.BB) ([]++a.A9) X19)))))))
def AmT(a:AE)(c:Aa)(X18:AA AE):AA AE:=gd (0+a.AG.length<=lim) (gd (0+a.BB.length<=lim) (gd (0+a.A9.length<=lim) (alt (K2 a c) (alt (Ch a c) (alt (K1 a c) (alt (K1 a c) (alt (An5 a c) (CU c c (ev6 a.Now a.A0 ([]++a.AG) ([]:List Ae) ([]++a.BB) ([]++a.A9) X18)))))))))
def AmV(a:AE)(c:Aa)(X22:AA AE):AA AE:=gd (0+a.AG.length<=lim) (gd (0+a.BB.length<=lim) (gd (0+a.A9.length<=lim) (alt (K1 a c) (alt (K1 a c) (CU c c (ev6 a.Now a.A0 ([]++a.AG) ([]:List Ae) ([]++a.BB) ([]++a.A9) X22))))))
def AmU(a:AE)(c:Aa)(X21:AA AE):AA AE:=gd (0+a.AG.length<=lim) (gd (0+a.BB.length<=lim) (gd (0+a.A9.length<=lim) (alt (K2 a c) (alt (Ch a c) (alt (K1 a c) (alt (K1 a c) (alt (AmV a c) (CU c c (ev6 a.Now a.A0 ([]++a.AG) ([]:List Ae) ([]++a.BB) ([]++a.A9) X21)))))))))
def AmW(a:AE)(c:Aa)(X24:AA AE):AA AE:=gd (0+a.AG.length<=lim) (gd (0+a.BB.length<=lim) (gd (0+a.A9.length<=lim) (alt (Ch a c) (alt (K1 a c) (alt (K1 a c) (alt (AmV a c) (CU c c (ev6 a.Now a.A0 ([]++a.AG) ([]:List Ae) ([]++a.BB) ([]++a.A9) X24))))))))
def An7(a:AE)(c:Aa)(X23:AA AE):AA AE:=gd (0+a.AG.length<=lim) (gd (0+a.BB.length<=lim) (gd (0+a.A9.length<=lim) (alt (Ch a c) (alt (Ch a c) (alt (Ak8 a c) (alt (AmW a c) (CU c c (ev6 a.Now a.A0 ([]++a.AG) ([]:List Ae) ([]++a.BB) ([]++a.A9) X23))))))))
def An6(a:AE)(c:Aa)(X20:AA AE):AA AE:=gd (0+a.AG.length<=lim) (gd (0+a.BB.length<=lim) (gd (0+a.A9.length<=lim) (alt (K2 a c) (alt (Ch a c) (alt (Ch a c) (alt (Ak7 a c) (alt (AmU a c) (alt (An7 a c) (CU c c (ev6 a.Now a.A0 ([]++a.AG) ([]:List Ae) ([]++a.BB) ([]++a.A9) X20))))))))))
def An4(a:AE)(c:Aa)(X17:AA AE):AA AE:=gd (0+a.AG.length<=lim) (gd (0+a.BB.length<=lim) (gd (0+a.A9.length<=lim) (alt (K2 a c) (alt (K2 a c) (alt (Ak0 a c) (alt (Alf a c) (alt (AmT a c) (alt (An6 a c) (CU c c (ev6 a.Now a.A0 ([]++a.AG) ([]:List Ae) ([]++a.BB) ([]++a.A9) X17))))))))))
def Aj6(a:AE)(c:Aa)(X31:AA AE):AA AE:=bd (AAo a.AQ) fun e=>gd (0+a.AG.length<=lim) (gd (0+a.BB.length<=lim) (gd (0+a.A9.length<=lim) (CU c e (ev6 a.Now a.A0 ([]++a.AG) ([]:List Ae) ([]++a.BB) ([]++a.A9) X31))))
def AoA(a:AE)(e:Aa)(X33:AA AE):AA AE:=bd (AAo a.AQ) fun c=>gd (0+a.AG.length<=lim) (gd (0+a.BB.length<=lim) (gd (0+a.A9.length<=lim) (alt (Ch a c) (alt (K1 a c) (alt (Aj6 a c) (CU e c (ev6 a.Now a.A0 ([]++a.AG) ([]:List Ae) ([]++a.BB) ([]++a.A9) X33)))))))
def AmX(a:AE)(e:Aa)(X29:AA AE):AA AE:=bd (AAo a.AQ) fun c=>gd (0+a.AG.length<=lim) (gd (0+a.BB.length<=lim) (gd (0+a.A9.length<=lim) (alt (K2 a c) (alt (Ch a c) (alt (K1 a c) (alt (Aj6 a c) (alt (AoA a c) (CU e c (ev6 a.Now a.A0 ([]++a.AG) ([]:List Ae) ([]++a.BB) ([]++a.A9) X29)))))))))
def AmZ(a:AE)(e:Aa)(X39:AA AE):AA AE:=bd (AAo a.AQ) fun c=>gd (0+a.AG.length<=lim) (gd (0+a.BB.length<=lim) (gd (0+a.A9.length<=lim) (alt (K1 a c) (alt (Aj6 a c) (CU e c (ev6 a.Now a.A0 ([]++a.AG) ([]:List Ae) ([]++a.BB) ([]++a.A9) X39))))))
def AmY(a:AE)(e:Aa)(X37:AA AE):AA AE:=bd (AAo a.AQ) fun c=>gd (0+a.AG.length<=lim) (gd (0+a.BB.length<=lim) (gd (0+a.A9.length<=lim) (alt (K2 a c) (alt (Ch a c) (alt (K1 a c) (alt (Aj6 a c) (alt (AmZ a c) (CU e c (ev6 a.Now a.A0 ([]++a.AG) ([]:List Ae) ([]++a.BB) ([]++a.A9) X37)))))))))
def Ama(a:AE)(e:Aa)(X43:AA AE):AA AE:=bd (AAo a.AQ) fun c=>gd (0+a.AG.length<=lim) (gd (0+a.BB.length<=lim) (gd (0+a.A9.length<=lim) (alt (Ch a c) (alt (K1 a c) (alt (Aj6 a c) (alt (AmZ a c) (CU e c (ev6 a.Now a.A0 ([]++a.AG) ([]:List Ae) ([]++a.BB) ([]++a.A9) X43))))))))
def AoC(a:AE)(e:Aa)(X41:AA AE):AA AE:=bd (AAo a.AQ) fun c=>gd (0+a.AG.length<=lim) (gd (0+a.BB.length<=lim) (gd (0+a.A9.length<=lim) (alt (Ch a c) (alt (Ch a c) (alt (Ak8 a c) (alt (Ama a c) (CU e c (ev6 a.Now a.A0 ([]++a.AG) ([]:List Ae) ([]++a.BB) ([]++a.A9) X41))))))))
def AoB(a:AE)(e:Aa)(X35:AA AE):AA AE:=bd (AAo a.AQ) fun c=>gd (0+a.AG.length<=lim) (gd (0+a.BB.length<=lim) (gd (0+a.A9.length<=lim) (alt (K2 a c) (alt (Ch a c) (alt (Ch a c) (alt (Ak7 a c) (alt (AmY a c) (alt (AoC a c) (CU e c (ev6 a.Now a.A0 ([]++a.AG) ([]:List Ae) ([]++a.BB) ([]++a.A9) X35))))))))))
def An9(a:AE)(e:Aa)(X27:AA AE):AA AE:=bd (AAo a.AQ) fun c=>gd (0+a.AG.length<=lim) (gd (0+a.BB.length<=lim) (gd (0+a.A9.length<=lim) (alt (K2 a c) (alt (K2 a c) (alt (Ak0 a c) (alt (Alf a c) (alt (AmX a c) (alt (AoB a c) (CU e c (ev6 a.Now a.A0 ([]++a.AG) ([]:List Ae) ([]++a.BB) ([]++a.A9) X27))))))))))
def Al0(a:AE)(e:Aa)(X53:AA AE):AA AE:=bd (AAo a.AQ) fun c=>gd (0+a.AG.length<=lim) (gd (0+a.BB.length<=lim) (gd (0+a.A9.length<=lim) (alt (Aj6 a c) (CU e c (ev6 a.Now a.A0 ([]++a.AG) ([]:List Ae) ([]++a.BB) ([]++a.A9) X53)))))
def Amb(a:AE)(e:Aa)(X51:AA AE):AA AE:=bd (AAo a.AQ) fun c=>gd (0+a.AG.length<=lim) (gd (0+a.BB.length<=lim) (gd (0+a.A9.length<=lim) (alt (K2 a c) (alt (Ch a c) (alt (K1 a c) (alt (Aj6 a c) (alt (Al0 a c) (CU e c (ev6 a.Now a.A0 ([]++a.AG) ([]:List Ae) ([]++a.BB) ([]++a.A9) X51)))))))))
def Amc(a:AE)(e:Aa)(X57:AA AE):AA AE:=bd (AAo a.AQ) fun c=>gd (0+a.AG.length<=lim) (gd (0+a.BB.length<=lim) (gd (0+a.A9.length<=lim) (alt (Ch a c) (alt (K1 a c) (alt (Aj6 a c) (alt (Al0 a c) (CU e c (ev6 a.Now a.A0 ([]++a.AG) ([]:List Ae) ([]++a.BB) ([]++a.A9) X57))))))))
def AoG(a:AE)(e:Aa)(X55:AA AE):AA AE:=bd (AAo a.AQ) fun c=>gd (0+a.AG.length<=lim) (gd (0+a.BB.length<=lim) (gd (0+a.A9.length<=lim) (alt (Ch a c) (alt (K1 a c) (alt (K1 a c) (alt (Amc a c) (CU e c (ev6 a.Now a.A0 ([]++a.AG) ([]:List Ae) ([]++a.BB) ([]++a.A9) X55))))))))
def AoF(a:AE)(e:Aa)(X49:AA AE):AA AE:=bd (AAo a.AQ) fun c=>gd (0+a.AG.length<=lim) (gd (0+a.BB.length<=lim) (gd (0+a.A9.length<=lim) (alt (K2 a c) (alt (Ch a c) (alt (K1 a c) (alt (K1 a c) (alt (Amb a c) (alt (AoG a c) (CU e c (ev6 a.Now a.A0 ([]++a.AG) ([]:List Ae) ([]++a.BB) ([]++a.A9) X49))))))))))
def AoE(a:AE)(e:Aa)(X47:AA AE):AA AE:=bd (AAo a.AQ) fun c=>gd (0+a.AG.length<=lim) (gd (0+a.BB.length<=lim) (gd (0+a.A9.length<=lim) (alt (K2 a c) (alt (K2 a c) (alt (Ak0 a c) (alt (Alf a c) (alt (AmX a c) (alt (AoF a c) (CU e c (ev6 a.Now a.A0 ([]++a.AG) ([]:List Ae) ([]++a.BB) ([]++a.A9) X47))))))))))
def AoK(a:AE)(e:Aa)(X67:AA AE):AA AE:=bd (AAo a.AQ) fun c=>gd (0+a.AG.length<=lim) (gd (0+a.BB.length<=lim) (gd (0+a.A9.length<=lim) (alt (K1 a c) (alt (Aj6 a c) (alt (Al0 a c) (CU e c (ev6 a.Now a.A0 ([]++a.AG) ([]:List Ae) ([]++a.BB) ([]++a.A9) X67)))))))
def Amd(a:AE)(e:Aa)(X65:AA AE):AA AE:=bd (AAo a.AQ) fun c=>gd (0+a.AG.length<=lim) (gd (0+a.BB.length<=lim) (gd (0+a.A9.length<=lim) (alt (K1 a c) (alt (K1 a c) (alt (AoK a c) (CU e c (ev6 a.Now a.A0 ([]++a.AG) ([]:List Ae) ([]++a.BB) ([]++a.A9) X65)))))))
def AoJ(a:AE)(e:Aa)(X63:AA AE):AA AE:=bd (AAo a.AQ) fun c=>gd (0+a.AG.length<=lim) (gd (0+a.BB.length<=lim) (gd (0+a.A9.length<=lim) (alt (K2 a c) (alt (Ch a c) (alt (K1 a c) (alt (K1 a c) (alt (Amb a c) (alt (Amd a c) (CU e c (ev6 a.Now a.A0 ([]++a.AG) ([]:List Ae) ([]++a.BB) ([]++a.A9) X63))))))))))
def AoI(a:AE)(e:Aa)(X61:AA AE):AA AE:=bd (AAo a.AQ) fun c=>gd (0+a.AG.length<=lim) (gd (0+a.BB.length<=lim) (gd (0+a.A9.length<=lim) (alt (K2 a c) (alt (Ch a c) (alt (Ch a c) (alt (Ak7 a c) (alt (AmY a c) (alt (AoJ a c) (CU e c (ev6 a.Now a.A0 ([]++a.AG) ([]:List Ae) ([]++a.BB) ([]++a.A9) X61))))))))))
def AoN(a:AE)(e:Aa)(X73:AA AE):AA AE:=bd (AAo a.AQ) fun c=>gd (0+a.AG.length<=lim) (gd (0+a.BB.length<=lim) (gd (0+a.A9.length<=lim) (alt (Ch a c) (alt (K1 a c) (alt (K1 a c) (alt (Amc a c) (alt (Amd a c) (CU e c (ev6 a.Now a.A0 ([]++a.AG) ([]:List Ae) ([]++a.BB) ([]++a.A9) X73)))))))))
def AoM(a:AE)(e:Aa)(X71:AA AE):AA AE:=bd (AAo a.AQ) fun c=>gd (0+a.AG.length<=lim) (gd (0+a.BB.length<=lim) (gd (0+a.A9.length<=lim) (alt (Ch a c) (alt (Ch a c) (alt (Ak8 a c) (alt (Ama a c) (alt (AoN a c) (CU e c (ev6 a.Now a.A0 ([]++a.AG) ([]:List Ae) ([]++a.BB) ([]++a.A9) X71)))))))))
def AoL(a:AE)(e:Aa)(X69:AA AE):AA AE:=bd (AAo a.AQ) fun c=>gd (0+a.AG.length<=lim) (gd (0+a.BB.length<=lim) (gd (0+a.A9.length<=lim) (alt (Ch a c) (alt (Ch a c) (alt (Ak8 a c) (alt (AmW a c) (alt (AoM a c) (CU e c (ev6 a.Now a.A0 ([]++a.AG) ([]:List Ae) ([]++a.BB) ([]++a.A9) X69)))))))))
def AoH(c:AE)(e:Aa)(X59:AA AE):AA AE:=bd (AAo c.AQ) fun a=>gd (0+c.AG.length<=lim) (gd (0+c.BB.length<=lim) (gd (0+c.A9.length<=lim) (alt (K2 c a) (alt (Ch c a) (alt (Ch c a) (alt (Ak7 c a) (alt (AmU c a) (alt (AoI c a) (alt (AoL c a) (CU e a (ev6 c.Now c.A0 ([]++c.AG) ([]:List Ae) ([]++c.BB) ([]++c.A9) X59)))))))))))
def AoD(c:AE)(e:Aa)(X45:AA AE):AA AE:=bd (AAo c.AQ) fun a=>gd (0+c.AG.length<=lim) (gd (0+c.BB.length<=lim) (gd (0+c.A9.length<=lim) (alt (K2 c a) (alt (K2 c a) (alt (Ak0 c a) (alt (Alf c a) (alt (AmT c a) (alt (AoE c a) (alt (AoH c a) (CU e a (ev6 c.Now c.A0 ([]++c.AG) ([]:List Ae) ([]++c.BB) ([]++c.A9) X45)))))))))))
def An8(c:AE)(e:Aa)(X25:AA AE):AA AE:=bd (AAo c.AQ) fun a=>gd (0+c.AG.length<=lim) (gd (0+c.BB.length<=lim) (gd (0+c.A9.length<=lim) (alt (K2 c a) (alt (K2 c a) (alt (Ak0 c a) (alt (Amo c a) (alt (Amp c a) (alt (An9 c a) (alt (AoD c a) (CU e a (ev6 c.Now c.A0 ([]++c.AG) ([]:List Ae) ([]++c.BB) ([]++c.A9) X25)))))))))))
def AoO(a:AE):AA AE:=some a
def Ame(j:AE)(g:Int×AE->AA AE)(q:Int×AE):AA AE:=let (c,a):=q;br (decide (c<j.AH.length)) (bd (at? j.AH c) fun h=>bd (AJt h) fun e=>gd (a.AH.length+[e].length<=lim) (g (w64 (c+1),AE.mk a.AQ a.Now a.A0 a.AG (a.AH++[e]) a.BB a.A9))) (jn AoO a)
def AJu(a:AE):AA AE:=bd (AAo a.AQ) fun c=>gd (0+a.AG.length<=lim) (gd (0+a.BB.length<=lim) (gd (0+a.A9.length<=lim) (alt (K2 a c) (alt (K2 a c) (alt (Ak0 a c) (alt (Amo a c) (alt (Amp a c) (alt (An4 a c) (alt (An8 a c) (BD (Ame a) big (0,AE.mk c a.Now a.A0 ([]++a.AG) [] ([]++a.BB) ([]++a.A9))))))))))))
def wG:GF:=Aab.EI (Bc AJu)
def ch(a:Ap):AA Ap:=bd (AJu a.BO) fun c=>gd (0+a.Laid.length<=lim) (bd (AJu a.BO) fun e=>gd (0+a.Laid.length<=lim) (Jz c e (ze a.BH a.BH (ev2 a.Seq ([]++a.Laid) (some (Ap.mk c a.BH a.Seq ([]++a.Laid)))))))
def AkO(a:B3):AA (List UInt8):=bd (ub a) fun c=>br (!c) (some []) (br (a.Kind==1) (bd (ez ([a.Kind,a.Id,a.Ab,w64 (a.Bu+1),a.BE,a.DJ])) fun e=>some e) (br (a.Kind==3) (bd (ez ([a.Kind,a.Ab,a.BE])) fun g=>some g) (br (a.Kind==6) (bd (ez [a.Kind]) fun h=>some h) (bd (ez ([a.Kind,a.Id])) fun j=>some j))))
def AkY(h:Int)(a:List UInt8)(j:Bool):AA (List UInt8):=br j (some []) (bd (Aj5 h) fun c=>gd (an c+a.length<=Mn) (bd (Alk (c++a)) fun q=>bd (Akv q) fun e=>gd (an e+(c++a).length<=Mn) (bd (Aj5 (↑(e++(c++a)).length:Int)) fun g=>gd (an g+(e++(c++a)).length<=Mn) (some (g++(e++(c++a)))))))
def AkX(a:Int)(c:List UInt8):AA (List UInt8):=bd (Eh a 1 1000000) fun e=>br (!e) (jn (AkY a c) true) (bd (Eh (↑c.length:Int) 1 60) fun g=>jn (AkY a c) (!g))
def Akt(c:Int)(e:B3):AA (List UInt8):=bd (AkO e) fun a=>br (a==[]) (some []) (bd (AkX c a) fun g=>some g)
def Ako(a:Bp)(c:List UInt8)(e:Bool):AA (Bp×Bool):=br e (some (a,false)) (gd (a.Data.length+c.length<=Mn) (some (Bp.mk (a.Data++c) a.Safe,true)))
def Aj3(a:Bp)(c:List UInt8):AA (Bp×Bool):=bd (cP a) fun e=>br (!e) (jn (Ako a c) true) (jn (Ako a c) (decide ((↑c.length:Int)>w64 (20000-(↑a.Data.length:Int)))))
def Alb(e:Ap)(c:B3)(a:Ap)(h:Bp×Bool)(g:Bool):AA (Ap×Int):=br g (some (a,24)) (gd (a.Laid.length+[c].length<=lim) (some (Ap.mk a.BO (BZ.mk h.fst a.BH.DW a.BH.Odd) (w64 (e.Seq+1)) (a.Laid++[c]),0)))
def Al4(a:Ap)(e:B3):AA (Ap×Int):=bd (ch a) fun g=>bd (uc a) fun y=>br (!y) (some (g,21)) (bd (ub e) fun B=>br (!B) (some (g,22)) (br (a.Seq==1000000) (some (g,23)) (bd (Akt (w64 (a.Seq+1)) e) fun h=>bd (Aj3 a.BH.Log h) fun c=>bd (Aj3 a.BH.Log h) fun j=>eqv c.snd j.snd (PQ c.fst j.fst (bd (Akt (w64 (a.Seq+1)) e) fun E=>bd (Aj3 a.BH.Log E) fun q=>eqv c.snd q.snd (PQ c.fst q.fst (br ((↑a.Laid.length:Int)==8) (jn (Alb a e g c) true) (jn (Alb a e g c) (!c.snd)))))))))
def AJv(a:List Au):AA (List Au):=gd (0+a.length<=lim) (some a)
def ARQ:=gZ xQ AoW DA ["YWLCorlPLAj53"] [] (Bc AJv)
def ABS(a:Aw):AA Aw:=some a
def ABU(g:Aw)(h:Int×Aw->AA Aw)(j:Int×Aw):AA Aw:=let (a,c):=j;br (decide (a<g.Ar.length)) (bd (at? g.Ar a) fun e=>gd (0+an e<=lim) (gd (c.Ar.length+[e].length<=lim) (h (w64 (a+1),Aw.mk (c.Ar++[e]))))) (jn ABS c)
def ABR(a:Aw):AA Aw:=BD (ABU a) big (0,Aw.mk [])
def AF8:=gZ Zc (.ret [(.st 6)]) [.cell 2 (some 1)] ["4Io0bfi8o6ZqteMbkV34Puztyk9pO6XecqdWrmqhWRnCMgrAbHpxbwmv8onzcU7zPucRsRjn4QwqXGJj","tmk"] [] (Bc ABR)
def bC(a:Ae):AA Ae:=bd (AJv a.Row) fun c=>bd (ABR a.By) fun e=>some (Ae.mk a.AY c e)
def ZT:=gZ xR (.ret [(.st 7)]) [.cell 2 (some 7)] ["2GDjXt28AZutlfwUl6ZTumbUuAi6sKT4V7t4GzXyeHr"] [ARQ,AF8] (Bc bC)
def Aom(a:AE):AA AE:=some a
def Amq(j:AE)(g:Int×AE->AA AE)(q:Int×AE):AA AE:=let (c,a):=q;br (decide (c<j.AH.length)) (bd (at? j.AH c) fun h=>bd (bC h) fun e=>gd (a.AH.length+[e].length<=lim) (g (w64 (c+1),AE.mk a.AQ a.Now a.A0 a.AG (a.AH++[e]) a.BB a.A9))) (jn Aom a)
def AJw(a:AE):AA AE:=bd (AJj a.AQ) fun c=>gd (0+a.AG.length<=lim) (bd (qA a.BB) fun e=>bd (qA a.A9) fun g=>bd (qA a.A9) fun q=>CU c c (ev5 a.Now a.A0 a.AG ([]:List Ae) e (eqv g q (bd (qA a.BB) fun y=>bd (qA a.A9) fun B=>CU c c (ev4 a.Now a.A0 a.AG ([]:List Ae) (eqv e y (eqv g B (gd (0+a.AG.length<=lim) (bd (qA a.BB) fun E=>bd (qA a.A9) fun G=>CU c c (ev4 a.Now a.A0 a.AG ([]:List Ae) (eqv e E (eqv g G (bd (AJj a.AQ) fun H=>gd (0+a.AG.length<=lim) (bd (qA a.BB) fun h=>bd (qA a.A9) fun j=>CU c H (ev4 a.Now a.A0 a.AG ([]:List Ae) (eqv e h (eqv g j (BD (Amq a) big (0,AE.mk c a.Now a.A0 a.AG [] e g)))))))))))))))))))
def ARR:=gZ Xi Abv [.cell 2 (some 15)] ["XzsCOyHOflDGrALxUS13ugyflMVtkgkSVAXkTSuFCcEDwjnfx77DCoxQukZ2AaOxzpYAHU1N3yU6h7Na","7LNOnWmGCSqh9SpqG89bxcvqhxiweNzQssJTEcQh9XvTCxFV8QOLlbNO9MyBN2NmEZY31pMkEV9YPDb8","xGh6XAP9dHahBWkfpjTbdeOvXrRMuVFAWrM864GsNnF9xZJSifksRmCc2HZmymTcmXdTK7zWAi43O9O0","tQud1ZT3yQDykCJhc4MGm8wrIgHpAcq7Rju3cY7HvGGUCyRCAwSwrlhMZQ7mctJtbNqOf19bSWwraYv6","Rj4o1ews9Hy4Opg7dJ2HqmdLayrnryv7qWau3r44l7fKbmzJJ9oqlcufi1O3IyIFdex3EME0SmNdq2lh","3prPNrEuCbIo78Nt3s"] [AFq,AFp,ZT] (Bc AJw)
def AJx(a:Ap):AA Ap:=bd (AJw a.BO) fun c=>gd (0+a.Laid.length<=lim) (some (Ap.mk c a.BH a.Seq a.Laid))
def ARS:=gZ Ma (.ret [(.st 11)]) [.cell 2 (some 23)] ["1ndSx6SZrWSHYjjkCXfu06p09J00KkEljNvk7PN3hR2OdYKDopcgqnAS"] [ARR] (Bc AJx)
def Als(a:List Int):AA (List UInt8):=bd (az a) fun c=>some c
def gO(a:B3):AA (List UInt8):=bd (WZ a) fun c=>br (!c) (some []) (br (a.Kind==1) (gd ([a.Kind].length+[a.Id,a.Ab,w64 (a.Bu+1),a.BE,a.DJ].length<=lim) (jn Als ([a.Kind]++[a.Id,a.Ab,w64 (a.Bu+1),a.BE,a.DJ]))) (br (a.Kind==3) (gd ([a.Kind].length+[a.Ab,a.BE].length<=lim) (jn Als ([a.Kind]++[a.Ab,a.BE]))) (br (a.Kind==6) (jn Als [a.Kind]) (gd ([a.Kind].length+[a.Id].length<=lim) (jn Als ([a.Kind]++[a.Id]))))))
def lH:=gZ [.v (.st 0)] AbZ DA ["6awK2GIuFHRUGl2MKMZabwFhZfroeTiOcGzSVkRmXmb0w3W9XMdR2m0EJufLIQt8bQfyPfCtivT1GB9f","CRsZZvwsjm2EI3m8VuXD7h9NDnUi3sfCDL5NPWH6JvAjz2NKNI5ncbve"] [ZR,AFz] (Bc gO)
def AdR(h:Int)(c:List UInt8)(j:Bool):AA (List UInt8):=br j (some []) (bd (fk h) fun e=>gd (an e+c.length<=lim) (bd (AA7 (e++c)) fun a=>gd ([toB (D4 a 24),toB (D4 a 16),toB (D4 a 8),toB a].length+(e++c).length<=lim) (bd (fk (↑([toB (D4 a 24),toB (D4 a 16),toB (D4 a 8),toB a]++(e++c)).length:Int)) fun g=>gd (an g+([toB (D4 a 24),toB (D4 a 16),toB (D4 a 8),toB a]++(e++c)).length<=Mn) (some (g++([toB (D4 a 24),toB (D4 a 16),toB (D4 a 8),toB a]++(e++c)))))))
def AJy(a:Int)(c:List UInt8):AA (List UInt8):=bd (C5 a 1 1000000) fun e=>br (!e) (jn (AdR a c) true) (bd (C5 (↑c.length:Int) 1 60) fun g=>jn (AdR a c) (!g))
def AF9:=gZ [.v .i,.v .s] AbZ Ca ["4fy48pPjFVUg1mQyCjZu4lbrQ9r2s4Gg1MhcuRkruJx3FUDQx1xWIMHSR2s4kvJ0C0SyOVdwtlMntQtw","4jiD94NSCTG0v55S7IaPpwceF6pYjkhMZQyXmJNc6nUfiPX"] [Et,AFy,AF0] (A4 AJy)
def Np(a:Int)(c:B3):AA (List UInt8):=bd (gO c) fun e=>bd (AJy a e) fun g=>some g
def LV:=gZ [.v .i,.v (.st 0)] AbZ Ca ["1gE0qekdWRZ6X7d7PCiw"] [lH,AF9] (A4 Np)
def Amr(a:Bp)(c:List UInt8)(e:Bool):AA (Bp×Bool):=br e (some (a,false)) (some (Bp.mk (a.Data++c) a.Safe,true))
def Uc(a:Bp)(c:List UInt8):AA (Bp×Bool):=gd (a.Data.length+c.length<=Mn) (bd (Pg a) fun e=>br (!e) (jn (Amr a c) true) (bd (Pg (Bp.mk (a.Data++c) a.Safe)) fun g=>jn (Amr a c) (!g)))
def lI:=gZ [.v (.st 9),.v .s] Qv ApH ["39KdkwzUPhXOKq8LZUHqGL90QHXNUgyxpeHSRINs3wjvHZLSMj9YxdgIa7EJbld4Mo"] [Qt] (A4 Uc)
def ABa(c:Ap)(g:B3):AA (Ap×Int):=bd (AJx c) fun a=>bd (Wa c) fun y=>br (!y) (some (a,21)) (bd (WZ g) fun B=>br (!B) (some (a,22)) (br (c.Seq==1000000) (some (a,23)) (br ((↑c.Laid.length:Int)==8) (some (a,24)) (bd (Np (w64 (c.Seq+1)) g) fun h=>bd (Uc c.BH.Log h) fun e=>bd (Uc c.BH.Log h) fun j=>eqv e.snd j.snd (PQ e.fst j.fst (bd (Np (w64 (c.Seq+1)) g) fun E=>bd (Uc c.BH.Log E) fun q=>eqv e.snd q.snd (PQ e.fst q.fst (br (!e.snd) (some (a,24)) (gd (a.Laid.length+[g].length<=lim) (some (Ap.mk a.BO (BZ.mk e.fst a.BH.DW a.BH.Odd) (w64 (a.Seq+1)) (a.Laid++[g]),0)))))))))))
def AGA:=gZ [.v (.st 11),.v (.st 0)] (.ret [(.st 11),.i]) mK ["vAZR3gpgxvkBNNEPbka3MzAQJHftRo5H7nsEoXwzrt2CCAlwyxc3XlDmEYi3g3MJ2qTqhZkGxoUmcRdS","spbAh24uq614FUIInxbPxD3CgInGsTJG7tq7kCo6iQnRFWaJgHlq8kYhJcLleAN0jVGo9sWZorapQ1C0","Is1sox1IEwJPSqqDgWE1S6YjM6vsGtIyBnJgICGunHOcrBuMe7MBooDnQenB0wS3wQlfxno3JKYL43GA","xwGXYRSmqyhErrekkXRYrymnfH5wNP4kLCNOMrk0cXM4C294eLlmhEAUjYUupyrjH9g8aWjntC2UD0V3","wk5naAfOdcCws7vhWkZ1XR"] [ARS,VQ,ZR,LV,lI] (A4 ABa)
end Lv
