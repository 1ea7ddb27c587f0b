/- Functions of the program as typed texts and as plain functions. -/
import Derived.Test.YtnjoipcemhflkaaGreatKGb
noncomputable section
set_option linter.unusedVariables false
set_option linter.unusedSimpArgs false
set_option linter.unusedSectionVars false
set_option maxRecDepth 100000
namespace Lv
open Go (IntKind BinOp UnOp)
open Y (YF qn qf qt qr q1 qd qm qa qo ql qL qb qi qx qp qq qc qz qe qk qK qB qw qu qj Kp wn wf wt w1 sw sq sr wm wM wo wO wl wL wk wK wz wZ wx wX wb wB wi wI wr wR wq wQ we wE wc wY wj wh cv ca cx cn ce bl)
end Lv
set_option maxRecDepth 100000
namespace Lv
open Go (IntKind BinOp UnOp)
open Y (YF qn qf qt qr q1 qd qm qa qo ql qL qb qi qx qp qq qc qz qe qk qK qB qw qu qj Kp wn wf wt w1 sw sq sr wm wM wo wO wl wL wk wK wz wZ wx wX wb wB wi wI wr wR wq wQ we wE wc wY wj wh cv ca cx cn ce bl)
def Agc(e:List Int×Ax):AA ((List Int)×Ax):=let (a,c):=e;some (a,c)
def Agd(j:Int×Ax)(h:List Int×Int×Ax->AA (List Int×Ax))(q:List Int×Int×Ax):AA ((List Int)×Ax):=let (a,e,g):=q;br (decide (e<j.fst)) (bd (AJ9 g ([0,1,2,5,30,-1,9223372036854775807,-9223372036854775808])) fun c=>gd (List.length a+[c.fst].length<=lim) (h (a++[c.fst],w64 (e+1),c.snd))) (jn Agc (a,g))
def ALN(c:Ax):AA ((List Int)×Ax):=bd (ABs c 5) fun a=>BD (Agd a) big ([],0,a.snd)
def AHQ:=gZ AbY AbZ DA ["EYJbQZvwWysz5VCOq6chsFZS3X34tNUTjlDAJTjVRPJWTGQpFVS7Nnna58Cyy32XfAcPFk0fGtFhZnAX","HuphMxliu"] [ARU,wT] (Bc ALN)
def re(j:Ax):AA ((List UInt8)×Ax):=bd (ABs j 12) fun a=>br (a.fst==0) (some ([],a.snd)) (br (a.fst==1) (bd (AB2 a.snd 60) fun c=>some (c.fst,c.snd)) (br (a.fst==2) (bd (AB2 a.snd 61) fun e=>some (e.fst,e.snd)) (bd (ABs a.snd 6) fun g=>bd (AB2 g.snd (w64 (1+g.fst))) fun h=>some (h.fst,h.snd))))
def xO:=gZ AbY AbN DA ["cYgF20G6MUM6bbn5PrIMIPPYDKyHO2Co88SmMPr1KfJaJL0LcjTf2Hkdt88FKVFDNSCJ0V"] [ARU,wa] (Bc re)
def AcX(e:Ax×BZ):AA (BZ×Ax):=let (a,c):=e;some (c,a)
def kN(B:Ax×BZ):AA (BZ×Ax):=let (y,a):=B;bd (ABs y 8) fun g=>br (g.fst==0) (bd (ABs g.snd 20) fun j=>bd (re j.snd) fun q=>bd (AJx (w64 (1+j.fst)) q.fst) fun c=>gd (a.Log.Data.length+List.length c<=Mn) (jn AcX (q.snd,BZ.mk (Bp.mk (a.Log.Data++c) (↑(a.Log.Data++c).length:Int)) a.DW a.Odd))) (br (g.fst==1) (bd (Po g.snd a.Log.Data) fun e=>jn AcX (e.snd,BZ.mk (Bp.mk e.fst (↑(List.length e.fst):Int)) a.DW a.Odd)) (br (g.fst==2) (bd (ACi g.snd) fun h=>some (h.fst,h.snd)) (jn AcX (g.snd,a))))
def rf(g:Ax):AA (BZ×Ax):=bd (ALB g) fun a=>bd (AJ5 a.snd 4) fun c=>br (!c.fst) (bd (ALN c.snd) fun e=>bd (rY a.fst.BH e.fst) fun h=>jn kN (e.snd,h)) (jn kN (c.snd,a.fst.BH))
def AHR:=gZ AbY Abz AfU ["DLscwqjrEwpMn26vs8nM3oNhXAkrGKjIDoFn1OjnUsL4k3rVbLWWRmSQZyhVuSyBgsvF6OpaWW8RRRFx","Dg6pKaYZcJ6h1O6n8OvPz1GSwRoLGxKwuHum8R1tjJO7r8SK0im5v4yisOzmFxUYufc9BTiT3wx7Dgkz","O9i5MUfrma7YdvDFnoDLMyWhO3AjWvnxQTTKFmU"] [ARy,ARV,AHQ,ARp,ARU,xO,ARS,VR,ARm] (Bc rf) [.fld 6 15 (some 6) (.tmp 5)]
def Rk(a:List UInt8):AA BZ:=bd (ABr a) fun c=>bd (rf c) fun e=>some e.fst
def mF:=gZ Acs Abz AfU ["TUmn0sKpbNbhwuCO"] [AGJ,AHR] (Bc Rk)
def EE(a:Bool):AA Bool:=some a
def H6(j:List UInt8):AA Bool:=bd (ABp j) fun Q=>br Q (some true) (bd (Rk j) fun I=>bd (ALA I) fun a=>bd (AK7 I) fun S=>br (!a.snd==S.snd) (some false) (br (!a.snd) (some ((↑a.fst.BO.AH.length:Int)==0)) (bd (ABz j 1) fun J=>bd (ACl a.fst.BH ([J,0,3])) fun L=>bd (ALA L) fun c=>bd (ALA L) fun O=>eqv c.snd O.snd (OI c.fst O.fst (bd (ACl a.fst.BH ([J,0,3])) fun X=>bd (ALA X) fun e=>eqv c.snd e.snd (OI c.fst e.fst (bd (ACl a.fst.BH ([J,0,3])) fun q=>bd (ALA q) fun g=>eqv c.snd g.snd (OI c.fst g.fst (bd (ABz j 1) fun y=>bd (ACl a.fst.BH ([y,0,3])) fun B=>bd (ALA B) fun h=>eqv c.snd h.snd (OI c.fst h.fst (br c.snd (br (c.fst.Seq==a.fst.Seq) (br (c.fst.BH.Log.Data==a.fst.BH.Log.Data&&(c.fst.BH.Log.Safe==a.fst.BH.Log.Safe&&(c.fst.BH.DW.Data==a.fst.BH.DW.Data&&(c.fst.BH.DW.Safe==a.fst.BH.DW.Safe&&(c.fst.BH.Odd.Data==a.fst.BH.Odd.Data&&(c.fst.BH.Odd.Safe==a.fst.BH.Odd.Safe&&true)))))) (bd (ACF c.fst.BO a.fst.BO) fun E=>br E (bd (DH a.fst.BH.Log.Data) fun G=>br (!G) (bd (ra I) fun H=>jn EE ((↑a.fst.BH.Log.Data.length:Int)==H)) (jn EE false)) (jn EE false)) (jn EE false)) (jn EE false)) (jn EE false))))))))))))
def F5:=gZ Acs C1 DA ["2AXcrUN9n3lRQdoQ71kubUXR6ZuDWyyR9oYdwdZogU6jqPdPB43rcL6jtSLYDguUjLqBcdej91XuApbt","L1UrkJS4Nkyn8QtVssTidsaTJjCjSqf3sRYbMODY4ZarhB0gn272n6DTA1prumD03nMSiDBAtvX3yqfo","JBoFHpIlSi7Gi1LDFV4CPFuTJuPrqBhJBRR8PruhdQB6FJwVnQ0QpwJFVJM14zYeHUoo2kofGNtTuy1t","Cs1VJwUVy86lumsscakMpSHTdlt957i6zGKfUWAt5DuguwltWApEw3K1yKK1herxtjgg5Di4K9R25lzH","1NIM5FvNRF3zEQZxAE4FjTe8r2XyY9zONnjrZ8TLnFUb1DNMoK2ufWmFdTmR74BLP5pA4d1NqoWB6Ky2","Pz1p9B6wrzV8NOHWfBoSscqAXIpKSHvf98ZwM8hReJVlMTJpTFj2xzE3H8ESw0vSXn"] [wP,mF,ARx,ARs,wV,xL,AGR,Ie,ARv] (Bc H6)
end Lv
