/- Functions of the program as typed texts and as plain functions. -/
import Derived.Test.YtnjoipcemhflkaaGreatKGw
noncomputable section
set_option linter.unusedVariables false
set_option linter.unusedSimpArgs false
set_option linter.unusedSectionVars false
set_option maxRecDepth 100000
namespace Lv
open Go (IntKind BinOp UnOp)
open Y (YF qn qf qt qr q1 qd qm qa qo ql qL qb qi qx qp qq qc qz qe qk qK qB qw qu qj Kp wn wf wt w1 sw sq sr wm wM wo wO wl wL wk wK wz wZ wx wX wb wB wi wI wr wR wq wQ we wE wc wY wj wh cv ca cx cn ce bl)
def Aj2(e:Ax×Aa):AA (Aa×Ax):=let (a,c):=e;some (c,a)
def AKv(h:Ax):AA (Aa×Ax):=bd (ABF h) fun a=>bd (qH a.snd ([0,-1,61,13,11,9,7,6,5,4,9223372036854775807,-9223372036854775808])) fun e=>bd (ABE e.snd 20) fun c=>br (c.fst==0) (gd (a.fst.AY.length+[e.fst].length<=lim) (jn Aj2 (c.snd,Aa.mk (a.fst.AY++[e.fst]) a.fst.CS a.fst.Room a.fst.BE a.fst.CE a.fst.Bz a.fst.Rest a.fst.CY a.fst.Cu))) (br (c.fst==1) (jn Aj2 (c.snd,Aa.mk a.fst.AY e.fst a.fst.Room a.fst.BE a.fst.CE a.fst.Bz a.fst.Rest a.fst.CY a.fst.Cu)) (br (c.fst==2) (jn Aj2 (c.snd,Aa.mk a.fst.AY a.fst.CS e.fst a.fst.BE a.fst.CE a.fst.Bz a.fst.Rest a.fst.CY a.fst.Cu)) (br (c.fst==3) (jn Aj2 (c.snd,Aa.mk a.fst.AY a.fst.CS a.fst.Room e.fst a.fst.CE a.fst.Bz a.fst.Rest a.fst.CY a.fst.Cu)) (br (c.fst==4) (jn Aj2 (c.snd,Aa.mk a.fst.AY a.fst.CS a.fst.Room a.fst.BE e.fst a.fst.Bz a.fst.Rest a.fst.CY a.fst.Cu)) (br (c.fst==5) (jn Aj2 (c.snd,Aa.mk a.fst.AY a.fst.CS a.fst.Room a.fst.BE a.fst.CE e.fst a.fst.Rest a.fst.CY a.fst.Cu)) (br (c.fst==6) (jn Aj2 (c.snd,Aa.mk a.fst.AY a.fst.CS a.fst.Room a.fst.BE a.fst.CE a.fst.Bz e.fst a.fst.CY a.fst.Cu)) (br (c.fst==7) (jn Aj2 (c.snd,Aa.mk a.fst.AY a.fst.CS a.fst.Room a.fst.BE a.fst.CE a.fst.Bz a.fst.Rest e.fst a.fst.Cu)) (br (c.fst==8) (jn Aj2 (c.snd,Aa.mk a.fst.AY a.fst.CS a.fst.Room a.fst.BE a.fst.CE a.fst.Bz a.fst.Rest a.fst.CY e.fst)) (br (c.fst==9) (bd (ABE c.snd 6) fun g=>gd (0<=g.fst/\g.fst<=(↑[60,1,2,3,4].length:Int)) (jn Aj2 (g.snd,Aa.mk (List.take (Int.toNat g.fst-0) (List.drop 0 [60,1,2,3,4])) a.fst.CS a.fst.Room a.fst.BE a.fst.CE a.fst.Bz a.fst.Rest a.fst.CY a.fst.Cu))) (jn Aj2 (c.snd,a.fst)))))))))))
def AHD:=gZ [.b (.st 17)] N0 AoX ["1N8kXlVYbEGFxtYZVVNTNomA4LQhxDLgJh2hLcJTf2b1L6PIS65jMDsMS2ipJ9MHbASS8dj64F5QUhN0","ICGCh6dXRPScarwXCjOAkXnVUXpG0Gk78ZpcsdWuODMdARpHbifIdIfd2G5dADZGf6v1z8wmYGrRPADh","hPkhY2F9VMAcM3n5ge5cbzYHs0g4JBcxyrD4WNrKYlCHvRZNi4wnYWpRYlkTGZP7P5NcHRbvc1rfV4X4","hEEsUOhIyz3OVIWHvpw6ysm4Tbei3OzTVwsmY9BROpXA1Dxm8EHKmMNdW0RC"] [ARM,AF6,vu] (Bc AKv)
end Lv
set_option maxRecDepth 100000
namespace Lv
open Go (IntKind BinOp UnOp)
open Y (YF qn qf qt qr q1 qd qm qa qo ql qL qb qi qx qp qq qc qz qe qk qK qB qw qu qj Kp wn wf wt w1 sw sq sr wm wM wo wO wl wL wk wK wz wZ wx wX wb wB wi wI wr wR wq wQ we wE wc wY wj wh cv ca cx cn ce bl)
end Lv
