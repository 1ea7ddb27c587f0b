/- Functions of the program as typed texts and as plain functions. -/
import Derived.Test.YtdmpkjjlnjchkaaGreatKG4
noncomputable section
set_option linter.unusedVariables false
set_option linter.unusedSimpArgs false
set_option linter.unusedSectionVars false
set_option maxRecDepth 100000
namespace Lv
open Go (IntKind BinOp UnOp)
open Y (YF qn qf qt qr q1 qd qm qa qo ql qL qb qi qx qp qq qc qz qe qk qK qB qw qu qj Kp wn wf wt w1 sw sq sr wm wM wo wO wl wL wk wK wz wZ wx wX wb wB wi wI wr wR wq wQ we wE wc wY wj wh cv ca cx cn ce bl)
def AKJ(c:List UInt8):AA (Ae×BX):=bd (AKD c) fun a=>some (a.fst,a.snd)
def YB:GF:=gZ Aw1 AOT xk 0x4b9b215ffa951b197fefa5b90a4774953d8a91 [Xw] (BL AKJ)
def Ed(a:Bool):AA Bool:=some a
def O8(g:List UInt8):AA Bool:=bd (AII g) fun h=>br h (some true) (bd (AKJ g) fun a=>bd (AAx a.fst a.snd) fun c=>bd (AQl a.fst a.snd) fun q=>br (c.snd != q.snd) (some false) (br (c.snd != 0) (br (c.fst.BO.Log.Data==a.fst.BO.Log.Data&&(c.fst.BO.Log.Safe==a.fst.BO.Log.Safe&&(c.fst.BO.Dl.Data==a.fst.BO.Dl.Data&&(c.fst.BO.Dl.Safe==a.fst.BO.Dl.Safe&&(c.fst.BO.Odd.Data==a.fst.BO.Odd.Data&&(c.fst.BO.Odd.Safe==a.fst.BO.Odd.Safe&&true)))))) (jn Ed (c.fst.Seq==a.fst.Seq)) (jn Ed false)) (bd (ABc c.fst.BD a.fst.BD) fun y=>br y (br (c.fst.BO.Log.Safe==a.fst.BO.Log.Safe) (bd (AQb c.fst) fun B=>bd (AAv a.fst) fun E=>bd (AQj (w64 (a.fst.Seq+1)) a.snd) fun G=>br (B==w64 (E+(↑(List.length G):Int))) (br ((↑c.fst.Laid.length:Int)==w64 ((↑a.fst.Laid.length:Int)+1)) (bd (at? c.fst.Laid (↑a.fst.Laid.length:Int)) fun j=>bd (at? c.fst.Laid (↑a.fst.Laid.length:Int)) fun e=>br (e.Kind==a.snd.Kind&&(e.Id==a.snd.Id&&(e.Aa==a.snd.Aa&&(e.Bl==a.snd.Bl&&(e.A2==a.snd.A2&&(e.Cj==a.snd.Cj&&true)))))) (jn Ed (c.fst.Seq==w64 (a.fst.Seq+1))) (jn Ed false)) (jn Ed false)) (jn Ed false)) (jn Ed false)) (jn Ed false))))
def Ka:GF:=gZ Aw1 A8J A8H 0x23ae92c7f8fc1b7ac44e1f7b8f4913dffe29dfdfc7859ec581e05e2e4c79faece76b235005fbc484413992e34d92dec5d5eef5d15085c9c0d627c131ad2337bb3d11450d0fc7f476e9ae8038477864ec50a7ac0d23a4b6a3cf93d584fe5efe02fa15b4a0a3f30589ff5f010c6ecbc9b9728a366ece198a6b5c9ca6c33bf5f6d820b96f2c440837f7f37183ef25f1f881d962ad2c333d1db52e2076aace0bcd0bb984188b40954186c67981953db58653663725614b81f23742837d28b5a102deba6f6c0cbd6bd87cf3abff04380a4a16cf3e360fa5adebfc26760f701d7bfeacaf9ecbabd0436325b6e53e6ff525ce08fc97593eed576de820848c9f36664a689971ead2890c2d99a60d [VF,YB,cZ,lA,xL,QL,OP,ky] (BL O8)
end Lv
set_option maxRecDepth 100000
namespace Lv
open Go (IntKind BinOp UnOp)
open Y (YF qn qf qt qr q1 qd qm qa qo ql qL qb qi qx qp qq qc qz qe qk qK qB qw qu qj Kp wn wf wt w1 sw sq sr wm wM wo wO wl wL wk wK wz wZ wx wX wb wB wi wI wr wR wq wQ we wE wc wY wj wh cv ca cx cn ce bl)
end Lv
