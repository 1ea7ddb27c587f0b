/- Functions of the program as typed texts and as plain functions. -/
import Derived.Test.YtdmpkjjlnjchkaaGreatKG5
noncomputable section
set_option linter.unusedVariables false
set_option linter.unusedSimpArgs false
set_option linter.unusedSectionVars false
set_option maxRecDepth 100000
namespace Lv
open Go (IntKind BinOp UnOp)
open Y (YF qn qf qt qr q1 qd qm qa qo ql qL qb qi qx qp qq qc qz qe qk qK qB qw qu qj Kp wn wf wt w1 sw sq sr wm wM wo wO wl wL wk wK wz wZ wx wX wb wB wi wI wr wR wq wQ we wE wc wY wj wh cv ca cx cn ce bl)
def Aiw(e:(AX×AZ)):AA (AZ×AX):=match e with |(a,c)=>some (c,a)
def AJg(h:AX):AA (AZ×AX):=bd (AQj h) fun a=>bd (AQk a.snd ([0,-1,61,13,11,9,7,6,5,4,9223372036854775807,-9223372036854775808])) fun e=>bd (nE e.snd 20) fun c=>br (c.fst==0) (gd (a.fst.AV.length+[e.fst].length<=lim) (jn (Aiw) ((c.snd,AZ.mk (a.fst.AV++[e.fst]) a.fst.CJ a.fst.Room a.fst.A2 a.fst.CB a.fst.Bq a.fst.Rest a.fst.CL a.fst.Cs)))) (br (c.fst==1) (jn Aiw (c.snd,AZ.mk a.fst.AV e.fst a.fst.Room a.fst.A2 a.fst.CB a.fst.Bq a.fst.Rest a.fst.CL a.fst.Cs)) (br (c.fst==2) (jn Aiw (c.snd,AZ.mk a.fst.AV a.fst.CJ e.fst a.fst.A2 a.fst.CB a.fst.Bq a.fst.Rest a.fst.CL a.fst.Cs)) (br (c.fst==3) (jn Aiw (c.snd,AZ.mk a.fst.AV a.fst.CJ a.fst.Room e.fst a.fst.CB a.fst.Bq a.fst.Rest a.fst.CL a.fst.Cs)) (br (c.fst==4) (jn Aiw (c.snd,AZ.mk a.fst.AV a.fst.CJ a.fst.Room a.fst.A2 e.fst a.fst.Bq a.fst.Rest a.fst.CL a.fst.Cs)) (br (c.fst==5) (jn Aiw (c.snd,AZ.mk a.fst.AV a.fst.CJ a.fst.Room a.fst.A2 a.fst.CB e.fst a.fst.Rest a.fst.CL a.fst.Cs)) (br (c.fst==6) (jn Aiw (c.snd,AZ.mk a.fst.AV a.fst.CJ a.fst.Room a.fst.A2 a.fst.CB a.fst.Bq e.fst a.fst.CL a.fst.Cs)) (br (c.fst==7) (jn Aiw (c.snd,AZ.mk a.fst.AV a.fst.CJ a.fst.Room a.fst.A2 a.fst.CB a.fst.Bq a.fst.Rest e.fst a.fst.Cs)) (br (c.fst==8) (jn Aiw (c.snd,AZ.mk a.fst.AV a.fst.CJ a.fst.Room a.fst.A2 a.fst.CB a.fst.Bq a.fst.Rest a.fst.CL e.fst)) (br (c.fst==9) (bd (nE c.snd 6) fun g=>gd (0<=g.fst/\g.fst<=(↑[60,1,2,3,4].length:Int)) (jn (Aiw) ((g.snd,AZ.mk (List.take (Int.toNat g.fst-0) (List.drop 0 [60,1,2,3,4])) a.fst.CJ a.fst.Room a.fst.A2 a.fst.CB a.fst.Bq a.fst.Rest a.fst.CL a.fst.Cs)))) (jn Aiw (c.snd,a.fst)))))))))))
def VL:GF:=gZ [.b (.st 17)] A1A BKa 0x1314244d233ce9101531d00dc92379ad30745b3a404a45efa57c2507499c314a28f19a81ddf5d6f7c85e27dbe6316fb250024e75e30520e8f9e7164e9b5cee5c45ada4645d68678406c9a17f8bef65951ba9d5addd61ba9916441855fb42fbae1ea4e0b316e6b528cbb52a7b8d88c936821ff64012af0793be0be5cc49a10cceede8788bf970da8afb65644cd3edfca2ae4484169bd3363ff85c2a9cd1a28e1943d557028816835b3bb0df2aaea0313930161c69684b60ccb2e43c87ded74a315106ef20d386cbc3faf51789cfac68831bc16008db8373462e8d97c95b96dcb32a1a603ce60d56dd [ky,kz,VD] (BL AJg)
def AJi(a:List UInt8):AA AZ:=bd (fP a) fun c=>bd (AJg c) fun e=>some e.fst
def dE:GF:=gZ Aw0 A1A BKa 0x24aafd4bf572da1cc67a7c1717bccd [OT,VL] (BL AJi)
def EY(a:Bool):AA Bool:=some a
def G3(a:(Ae×Bool))(e:Bool):AA Bool:=br e (some false) (bd (sW a.fst.BO) fun c=>br c.snd (br (c.fst.Seq==0) (bd (AQf c.fst.BD a.fst.BD) fun g=>br g (br (c.fst.BO.Log.Data==a.fst.BO.Log.Data&&(c.fst.BO.Log.Safe==a.fst.BO.Log.Safe&&(c.fst.BO.Dl.Data==a.fst.BO.Dl.Data&&(c.fst.BO.Dl.Safe==a.fst.BO.Dl.Safe&&(c.fst.BO.Odd.Data==a.fst.BO.Odd.Data&&(c.fst.BO.Odd.Safe==a.fst.BO.Odd.Safe&&true)))))) (bd (tM a.fst) fun h=>jn (EY) h) (jn EY false)) (jn EY false)) (jn EY false)) (jn EY false))
def Ic(g:List UInt8):AA Bool:=bd (WY g) fun j=>br j (some true) (bd (AJi g) fun h=>bd (AYA h) fun a=>bd (Afi h) fun q=>br (!q) (some (!a.snd)) (br (!a.snd) (jn (G3 a) true) (bd (ANV a.fst) fun c=>br (!c) (jn (G3 a) true) (bd (nI a.fst.BO) fun e=>jn (G3 a) (!e)))))
def GG:GF:=gZ Aw0 Cm BGd 0xfe60444c6fccf046106bf021e72cadf0211d6a8cdfa17c0db7329e986ab07a48561487b63400f2b80e57928ae689abfb6466318fcae76335e45a9dc7e5db35b35b9387580cfe85edec7a69ace2df5cee162069859d62876a123d93a71e3d7cdeef3aeb9ccc37e9c67619991ce9336f8b4d2df7ce51c4ed6794ba27df10ea512a1ccf4112e0ef6e400ebe35f19ec44eb980d28e3bae7e76 [VC,dE,IB,ATC,T7,cj,xJ,AY7,VK] (BL Ic)
end Lv
set_option maxRecDepth 100000
namespace Lv
open Go (IntKind BinOp UnOp)
open Y (YF qn qf qt qr q1 qd qm qa qo ql qL qb qi qx qp qq qc qz qe qk qK qB qw qu qj Kp wn wf wt w1 sw sq sr wm wM wo wO wl wL wk wK wz wZ wx wX wb wB wi wI wr wR wq wQ we wE wc wY wj wh cv ca cx cn ce bl)
end Lv
