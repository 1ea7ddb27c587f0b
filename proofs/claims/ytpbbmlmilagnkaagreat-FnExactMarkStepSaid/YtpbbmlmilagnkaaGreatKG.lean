/- Functions of the program as typed texts and as plain functions. -/
import Derived.Test.YtpbbmlmilagnkaaGreatKE
noncomputable section
set_option linter.unusedVariables false
set_option linter.unusedSimpArgs false
set_option linter.unusedSectionVars false
set_option maxRecDepth 100000
namespace Lv
open Go (IntKind BinOp UnOp)
open Y (YF qn qf qt qr q1 qd qm qa qo ql qL qb qi qx qp qq qc qz qe qk qK qB qw qu qj Kp wn wf wt w1 sw sq sr wm wM wo wO wl wL wk wK wz wZ wx wX wb wB wi wI wr wR wq wQ we wE wc wY wj wh cv ca cx cn ce bl)
def XL(v2:B2):AA B2:=some v2
def y9(p0:B2):AA B2:=bd (Ox p0) fun x1=>br x1 (jn XL (B2.mk p0.Data (↑p0.Data.length:Int))) (jn XL p0)
def tu:GF:=gZ Xs Xy fF 0x59472bf90b9d817c831c6ec217978188ce716020939fd8 [PV] (BY y9)
end Lv
set_option maxRecDepth 100000
namespace Lv
open Go (IntKind BinOp UnOp)
open Y (YF qn qf qt qr q1 qd qm qa qo ql qL qb qi qx qp qq qc qz qe qk qK qB qw qu qj Kp wn wf wt w1 sw sq sr wm wM wo wO wl wL wk wK wz wZ wx wX wb wB wi wI wr wR wq wQ we wE wc wY wj wh cv ca cx cn ce bl)
def Q4(p0:B2)(p1:Int)(v2:Bool):AA (B2×Bool):=br v2 (some (p0,false)) (gd (0<=p1/\p1<=(↑p0.Data.length:Int)) (some ((B2.mk (List.drop p1.toNat p0.Data) (w64 ((↑p0.Data.length:Int)-p1)),true))))
def zA(p0:B2)(p1:Int):AA (B2×Bool):=bd (Ox p0) fun x1=>br (!x1) (jn (Q4 p0 p1) true) (bd (D9 p1 0 (↑p0.Data.length:Int)) fun x3=>br (!x3) (jn (Q4 p0 p1) true) (jn (Q4 p0 p1) (decide (p0.Safe<(↑p0.Data.length:Int)))))
def tw:GF:=gZ AEs fB fG 0xeb65729982322c2b248df3390030b2e82c7770835aa3775a607caceac6449652bc8dbf31e1b3f02a025b100742a3ffff4daa1f080aa6af8fbb911fb4bab944175422bcc [PV,G8] (BF zA)
def nE(v1:B5):AA B5:=some v1
def zB(p0:B5)(p1:Int)(p2:B2):AA B5:=br (p1.tmod 2==0) (jn nE (B5.mk p0.Log p2 p0.Odd)) (jn nE (B5.mk p0.Log p0.Fw p2))
def tx:GF:=gZ AEr uK [.cell 6 (some 6)] 0x22a142f7a0a62640065d65d56d3963e2568924f17d12857c4ade9efd5aa8f4aa7115367e [] (HY zB)
def Ni(p0:Ay)(x4:Int)(x_:(Bool×Ay×B2)):AA (Ay×Bool):=match x_ with |(v6,v7,v8)=>br (!v6) (bd (bG p0) fun x9=>some (x9,false)) (bd (zB v7.Bu (w64 (1-x4)) v8) fun x10=>some (Ay.mk v7.Av x10 v7.Seq v7.Laid,true))
def Q5(p0:Ay)(p1:Int)(x1:Ay)(v3:Bool):AA (Ay×Bool):=br v3 (some (x1,false)) (bd (nB p0.Bu) fun x4=>br (decide (x4<0)) (some (x1,false)) (bd (nA p0.Bu (w64 (1-x4))) fun x5=>br (p1==0) (jn (Ni p0 x4) (true,x1,B2.mk [] 0)) (br (p1==1) (bd (lP p0.Av p0.Seq) fun x11=>bd (yt x5 x11) fun x12=>jn (Ni p0 x4) (x12.snd,x1,x12.fst)) (br (p1==2) (bd (y9 x5) fun x13=>jn (Ni p0 x4) (true,x1,x13)) (bd (XH p0.Bu x4) fun x14=>bd (y2 p0.Bu x14.snd.fst) fun x15=>bd (zA p0.Bu.Log x15) fun x16=>jn (Ni p0 x4) ((x16.snd,Ay.mk x1.Av (B5.mk x16.fst x1.Bu.Fw x1.Bu.Odd) x1.Seq x1.Laid,x5)))))))
def nF(p0:Ay)(p1:Int):AA (Ay×Bool):=bd (bG p0) fun x1=>bd (xM p0) fun x2=>br (!x2) (jn (Q5 p0 p1 x1) true) (br (decide ((↑p0.Laid.length:Int)>0)) (jn (Q5 p0 p1 x1) true) (bd (D9 p1 0 3) fun x17=>jn (Q5 p0 p1 x1) (!x17)))
def eo:GF:=gZ Tv fE fH 0xd56e94a0476da9a12339f7b56d7719a58201b877b7bbcabca670c4d875f15a5f5894a2ac052aa41203f4e984dcd96b54e8557c8970fe2bf165e1bc667113f1630f4ec5042f86a675cb4ce116d2a263956a9d9308b1d0e1585152a5c41e8f9c84c4e75bce8ee92e39bcea3aeac68473c07a0263c1f6f578cb59a402c3cf25f7c4f7a91ee55768d649c7ee843a8aafa53ff335523445ebaee7bbae807d90f35468b2f33990b30aae16f398417b75ccf2563a5be6002bb5428f05e9b725a0ee5c28452f274d3118d09aa18f19f08490daf9c8f8964966a60d75a060abd8a7ddd0a6faa8d9fc5e1b59216c3262a2f6e3a07260c81d60e8f177b0323e21fa67c943d9d97176a8a74361ac20465d2bcbaed38969aff19f364aecfd42421e6a57660f258 [eQ,qg,G8,tp,eX,eJ,tN,tu,eY,tZ,tw,tx] (BF nF)
def nG(v1:B5):AA B5:=some v1
def bI(p0:B5)(p1:Int)(p2:B2):AA B5:=br (p1.tmod 2==0) (jn nG (B5.mk p0.Log p2 p0.Odd)) (jn nG (B5.mk p0.Log p0.Fw p2))
def tz:GF:=gZ AEr uK [.cell 6 (some 6)] 0x22a142f7a0a62640065d65d56d3963e2568924f17d12857c4ade9efd5aa8f4aa7115367e [] (HY bI)
def Q6(p0:B2)(p1:Int)(v2:Bool):AA (B2×Bool):=br v2 (some (p0,false)) (gd (0<=p1/\p1<=(↑p0.Data.length:Int)) (some ((B2.mk (List.drop p1.toNat p0.Data) (w64 ((↑p0.Data.length:Int)-p1)),true))))
def zC(p0:B2)(p1:Int):AA (B2×Bool):=bd (Nb p0) fun x1=>br (!x1) (jn (Q6 p0 p1) true) (bd (Cy p1 0 (↑p0.Data.length:Int)) fun x3=>br (!x3) (jn (Q6 p0 p1) true) (jn (Q6 p0 p1) (p0.Safe != (↑p0.Data.length:Int))))
def uA:GF:=gZ AEs fB fG 0x180f8936b0cecb83be3c825c5384fa4965e0e00017c3b55dbcdcbe5754995808e262eaa24221ea737b1511b39c767d65bbaafb609d8b9e2c14b6a765d9a2cd261d738642 [Pb,FD] (BF zC)
def Nl(x_:(Bool×Ay)):AA (Ay×Bool):=match x_ with |(v7,v8)=>some (v8,v7)
def Nj(p0:Ay)(p1:Int)(x1:Ay)(x2:Int)(v4:Bool):AA (Ay×Bool):=br v4 (some (x1,false)) (bd (nC p0.Bu (w64 (1-x2))) fun x5=>br (p1==0) (bd (bI p0.Bu (w64 (1-x2)) (B2.mk [] 0)) fun x6=>jn (Nl) (true,Ay.mk x1.Av x6 x1.Seq x1.Laid)) (br (p1==1) (bd (lZ p0.Av p0.Seq) fun x9=>bd (yx x5 x9) fun x10=>bd (bI p0.Bu (w64 (1-x2)) x10.fst) fun x11=>jn (Nl) (x10.snd,Ay.mk x1.Av x11 x1.Seq x1.Laid)) (br (p1==2) (bd (yO x5) fun x12=>bd (bI p0.Bu (w64 (1-x2)) x12) fun x13=>jn (Nl) (true,Ay.mk x1.Av x13 x1.Seq x1.Laid)) (bd (XJ p0.Bu x2) fun x14=>bd (yg p0.Bu x14.snd.fst) fun x15=>bd (zC p0.Bu.Log x15) fun x16=>jn (Nl) ((x16.snd,Ay.mk x1.Av (B5.mk x16.fst x1.Bu.Fw x1.Bu.Odd) x1.Seq x1.Laid))))))
def bJ(p0:Ay)(p1:Int):AA (Ay×Bool):=bd (mi p0) fun x1=>bd (nD p0.Bu) fun x2=>bd (yC p0) fun x3=>br (!x3) (jn (Nj p0 p1 x1 x2) true) (br (decide ((↑p0.Laid.length:Int)>0)) (jn (Nj p0 p1 x1 x2) true) (bd (Mz p1 4) fun x17=>br (!x17) (jn (Nj p0 p1 x1 x2) true) (jn (Nj p0 p1 x1 x2) (decide (x2<0)))))
def eu:GF:=gZ Tv fE fH 0x1f1ee4ee1f09b2e15b398481fdfb087458a8370b73bfc567f8ba3dd5027d7fdc91eb08fa4eedecc0f1fa7d57dc75cfb3296ebf56804a53daa2b6c5ce6552c186af553d3a145a8b68b900405656eb795992f7348ed8f122c6b59371d7a415c14581e6b800d636935e94a9992bf7843da0e25e4326b22ca9ddfbb0fd01dc17d76cb42b147d98a3d0376e1a4a656d20744889d11b3d3ade292400eac42440c805cf27a53a91504f42a4201f73466fb2a50d0f118b9f3367bedd08fa9399da7a8714fa0e5929362b32c2b9e67e4e0d9323a5fb302a342f8c8e3f10a07cc31fcff2ff16a085e04ef5d572b08e3bd30646e5e8ac3efc29dc804aa73591ea264e8548d3a1068439a161493d2edcd151a92ec58875257131e84f9b2180c4457925df222163bcc285982c [eS,tt,sE,Ns,eZ,tz,AES,tU,sS,eg,s6,uA] (BF bJ)
def FB(x5:(Ay×Bool))(x12:(Int×Ay))(v17:Bool):AA Bool:=br v17 (some false) (bd (Wo (Ay.mk (AH.mk (AW.mk x12.snd.Av.AR.Ae x5.fst.Av.AR.CJ x5.fst.Av.AR.Room x5.fst.Av.AR.BW x5.fst.Av.AR.Bn x5.fst.Av.AR.Bi x5.fst.Av.AR.Rest x5.fst.Av.AR.CI x5.fst.Av.AR.Ch) x5.fst.Av.Now x5.fst.Av.A4 x12.snd.Av.AK x12.snd.Av.Ap x12.snd.Av.BO x12.snd.Av.BP) x5.fst.Bu x5.fst.Seq x12.snd.Laid) 1) fun x18=>br (decide (x18<0)) (some false) (br (x18 != x12.fst) (some false) (some true)))
def D5(p0:Ay)(p1:Int)(x3:(Ay×Bool))(x5:(Ay×Bool))(v11:Bool):AA Bool:=br v11 (some false) (bd (WB x5.fst 1) fun x12=>bd (Wo (Ay.mk (AH.mk (AW.mk x12.snd.Av.AR.Ae x5.fst.Av.AR.CJ x5.fst.Av.AR.Room x5.fst.Av.AR.BW x5.fst.Av.AR.Bn x5.fst.Av.AR.Bi x5.fst.Av.AR.Rest x5.fst.Av.AR.CI x5.fst.Av.AR.Ch) x5.fst.Av.Now x5.fst.Av.A4 x12.snd.Av.AK x12.snd.Av.Ap x12.snd.Av.BO x12.snd.Av.BP) x5.fst.Bu x5.fst.Seq x12.snd.Laid) 1) fun x13=>br (decide (x13<0)) (some false) (br (x13 != x12.fst) (some false) (bd (Uz p0) fun x14=>bd (bJ x14 p1) fun x15=>bd (NX x15.fst x3.fst) fun x16=>br (!x16) (jn (FB x5 x12) true) (jn (FB x5 x12) (!x15.snd==x3.snd)))))
def FA(p0:Ay)(p1:Int)(x3:(Ay×Bool))(x4:Ay)(x5:(Ay×Bool))(v7:Bool):AA Bool:=br v7 (some false) (bd (Uz p0) fun x8=>bd (NX x4 x8) fun x9=>br (!x9) (some false) (bd (WB x4 1) fun x10=>br (decide (x10.fst<0)) (jn (D5 p0 p1 x3 x5) true) (bd (NX x5.fst x3.fst) fun x19=>br (!x19) (jn (D5 p0 p1 x3 x5) true) (jn (D5 p0 p1 x3 x5) (!x5.snd==x3.snd)))))
def Ee(p0:Ay)(p1:Int):AA Bool:=bd (AD0 p0 1048576) fun x1=>br (decide (x1<0)) (some true) (bd (Uz p0) fun x2=>bd (nF x2 p1) fun x3=>bd (Uz p0) fun x4=>bd (bJ x4 p1) fun x5=>bd (NX x5.fst x3.fst) fun x6=>br (!x6) (jn (FA p0 p1 x3 x4 x5) true) (jn (FA p0 p1 x3 x4 x5) (!x5.snd==x3.snd)))
def Dn:GF:=gZ Tv Bz Br 0xc20ef568b8751e331f58794a65b1691174a7d407b2a8fbe3add27f018debddb5bc7bf74427f22665ca1bdcc40663cbf53d7a2e98289f1726819a6f8cc4204860a8d38153012e054ec07a7c2ca356cdd389b88d511f8f44055fc2591bdb3fe3c761f039e3df41e4d95381d7dc0631b614b2bb34247a0b5c73330794c691733880ef9cd8db09aa9879c2ff04858bb543e27adcdf7fff9c38372b45103eb20544029431224f1624c93f3bed00dd6b4c43a652d2505e4b9a81947c777f2925f177a5edc23439b7ae4785cfb6dd01eb24216e9f276bb9f21c2f3d4c74343ef6b83a6c3e02a99e8472a562cc910dece3686d551ba8c0f51610bf390b728fc687792327a0ad2f5a8dfe709596220ef522db83086a77d7ba9e748571e8c6ada3e33e01ed9f69985934255a [zb,zZ,eo,eu,dx,eF,eO] (BF Ee)
def nH(v7:Ay):AA (Ay×Bool):=some (v7,true)
def Q7(p1:Int)(L2:(Int×Ay)->AA (Ay×Bool))(x_:(Int×Ay)):AA (Ay×Bool):=match x_ with |(v3,v4)=>bd (mo p1 4) fun x5=>br (decide (v3<x5)) (bd (nF v4 v3) fun x6=>br (!x6.snd) (some (v4,false)) (L2 ((w64 (v3+1),x6.fst)))) (jn nH v4)
def zD(p0:Ay)(p1:Int):AA (Ay×Bool):=bd (bG p0) fun x1=>Aw (Q7 p1) big (0,x1)
def AEV:GF:=gZ Tv fE fH 0xa73b011bec2d57fb65aba40627fa9c349280fa4aa503a91ebb441a6c15e8c6b257aef419b508917d9c78e6b0b7fa3018745e7cea5243b95655bbf660334d754bf35b4268a5435aeb63b3d123db5f8df87c361d8ff8dc65aa397b199359c [eQ,eV,eo] (BF zD)
def zE(p0:Int)(p1:Int)(p2:Int):AA Int:=some (if false=true then if p2>if true=true then if p1>p0 then p1 else p0 else if p1<p0 then p1 else p0 then p2 else if true=true then if p1>p0 then p1 else p0 else if p1<p0 then p1 else p0 else if p2<if true=true then if p1>p0 then p1 else p0 else if p1<p0 then p1 else p0 then p2 else if true=true then if p1>p0 then p1 else p0 else if p1<p0 then p1 else p0)
def AEW:GF:=gZ uC Ca MW 0x239db7bfef315aeaa9b322f [] (HY zE) [.mm 9 true (.tmp 7) (.tmp 8),.mm 11 false (.tmp 9) (.tmp 10)]
def nJ(v7:Ay):AA (Ay×Bool):=some (v7,true)
def Q8(p1:Int)(L2:(Int×Ay)->AA (Ay×Bool))(x_:(Int×Ay)):AA (Ay×Bool):=match x_ with |(v3,v4)=>bd (zE p1 0 4) fun x5=>br (decide (v3<x5)) (bd (bJ v4 v3) fun x6=>br (!x6.snd) (some (v4,false)) (L2 ((w64 (v3+1),x6.fst)))) (jn nJ v4)
def nI(p0:Ay)(p1:Int):AA (Ay×Bool):=bd (mi p0) fun x1=>Aw (Q8 p1) big (0,x1)
def AEX:GF:=gZ Tv fE fH 0x1ad53861b004f2c58b8ae6895db002061bb2405d32e9e57e10c840487fcab3e575a201b2ab97d5400623b0a6d3fa69b200fc13cf7d243be05aca074ca4a0f9e26a74e4f22eaef4f7be49f11a3f960d0812f6c4a76358aba2759eda3b8e73b [eS,AEW,eu] (BF nI)
def GZ(x5:(Ay×Bool))(x12:(Int×Ay))(v17:Bool):AA Bool:=br v17 (some false) (bd (Wo (Ay.mk (AH.mk (AW.mk x12.snd.Av.AR.Ae x5.fst.Av.AR.CJ x5.fst.Av.AR.Room x5.fst.Av.AR.BW x5.fst.Av.AR.Bn x5.fst.Av.AR.Bi x5.fst.Av.AR.Rest x5.fst.Av.AR.CI x5.fst.Av.AR.Ch) x5.fst.Av.Now x5.fst.Av.A4 x12.snd.Av.AK x12.snd.Av.Ap x12.snd.Av.BO x12.snd.Av.BP) x5.fst.Bu x5.fst.Seq x12.snd.Laid) 1) fun x18=>br (decide (x18<0)) (some false) (br (x18 != x12.fst) (some false) (some true)))
def E1(p0:Ay)(p1:Int)(x3:(Ay×Bool))(x5:(Ay×Bool))(v11:Bool):AA Bool:=br v11 (some false) (bd (WB x5.fst 1) fun x12=>bd (Wo (Ay.mk (AH.mk (AW.mk x12.snd.Av.AR.Ae x5.fst.Av.AR.CJ x5.fst.Av.AR.Room x5.fst.Av.AR.BW x5.fst.Av.AR.Bn x5.fst.Av.AR.Bi x5.fst.Av.AR.Rest x5.fst.Av.AR.CI x5.fst.Av.AR.Ch) x5.fst.Av.Now x5.fst.Av.A4 x12.snd.Av.AK x12.snd.Av.Ap x12.snd.Av.BO x12.snd.Av.BP) x5.fst.Bu x5.fst.Seq x12.snd.Laid) 1) fun x13=>br (decide (x13<0)) (some false) (br (x13 != x12.fst) (some false) (bd (Uz p0) fun x14=>bd (nI x14 p1) fun x15=>bd (NX x15.fst x3.fst) fun x16=>br (!x16) (jn (GZ x5 x12) true) (jn (GZ x5 x12) (!x15.snd==x3.snd)))))
def GY(p0:Ay)(p1:Int)(x3:(Ay×Bool))(x4:Ay)(x5:(Ay×Bool))(v7:Bool):AA Bool:=br v7 (some false) (bd (Uz p0) fun x8=>bd (NX x4 x8) fun x9=>br (!x9) (some false) (bd (WB x4 1) fun x10=>br (decide (x10.fst<0)) (jn (E1 p0 p1 x3 x5) true) (bd (NX x5.fst x3.fst) fun x19=>br (!x19) (jn (E1 p0 p1 x3 x5) true) (jn (E1 p0 p1 x3 x5) (!x5.snd==x3.snd)))))
def F8(p0:Ay)(p1:Int):AA Bool:=bd (AD0 p0 1048576) fun x1=>br (decide (x1<0)) (some true) (bd (Uz p0) fun x2=>bd (zD x2 p1) fun x3=>bd (Uz p0) fun x4=>bd (nI x4 p1) fun x5=>bd (NX x5.fst x3.fst) fun x6=>br (!x6) (jn (GY p0 p1 x3 x4 x5) true) (jn (GY p0 p1 x3 x4 x5) (!x5.snd==x3.snd)))
def EZ:GF:=gZ Tv Bz Br 0xc20ef568b8751e331f58794a65b1691174a7d407b2a8fbe3add27f018debddb5bc7bf74427f22665ca1bdcc40663cbf53d7a2e98289f1726819a6f8cc4204860a8d38153012e054ec07a7c2ca356cdd389b88d511f8f44055fc2591bdb3fe3c761f039e3df41e4d95381d7dc0631b614b2bb34247a0b5c73330794c691733880ef9cd8db09aa9879c2ff04858bb543e27adcdf7fff9c38372b45103eb20544029431224f1624c93f3bed00dd6b4c43a652d2505e4b9a81947c777f2925f177a5edc23439b7ae4785cfb6dd01eb24216e9f276bb9f21c2f3d4c74343ef6b83a6c3e02a99e8472a562cc910dece3686d551ba8c0f51610bf390b728fc687792327a0ad2f5a8dfe709596220ef522db83086a77d7ba9e748571e8c6ada3e33e01ed9f69985934255a [zb,zZ,AEV,AEX,dx,eF,eO] (BF F8)
end Lv
set_option maxRecDepth 100000
namespace Lv
open Go (IntKind BinOp UnOp)
open Y (YF qn qf qt qr q1 qd qm qa qo ql qL qb qi qx qp qq qc qz qe qk qK qB qw qu qj Kp wn wf wt w1 sw sq sr wm wM wo wO wl wL wk wK wz wZ wx wX wb wB wi wI wr wR wq wQ we wE wc wY wj wh cv ca cx cn ce bl)
end Lv
set_option maxRecDepth 100000
namespace Lv
open Go (IntKind BinOp UnOp)
open Y (YF qn qf qt qr q1 qd qm qa qo ql qL qb qi qx qp qq qc qz qe qk qK qB qw qu qj Kp wn wf wt w1 sw sq sr wm wM wo wO wl wL wk wK wz wZ wx wX wb wB wi wI wr wR wq wQ we wE wc wY wj wh cv ca cx cn ce bl)
end Lv
