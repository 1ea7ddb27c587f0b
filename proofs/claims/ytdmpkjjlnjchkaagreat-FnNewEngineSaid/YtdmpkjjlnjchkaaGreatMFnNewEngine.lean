/-
  The functions that the law FnNewEngine reaches are the texts that are shown.
-/
import Derived.Test.YtdmpkjjlnjchkaaGreatRows
import Derived.Test.YtdmpkjjlnjchkaaGreatLF
import Derived.Test.YtdmpkjjlnjchkaaGreatPU5
import Derived.JoinedCond
noncomputable section
set_option linter.unusedVariables false
set_option linter.unusedSimpArgs false
set_option linter.unusedSectionVars false
namespace Go.Proofs.YtdmpkjjlnjchkaaGreat.fnNewEngine
open Go Lv Lv.P
set_option maxRecDepth 100000
abbrev M(n:Nat)(g:GF):Prop:=Mt (PB Tryz.prog) Tryz.prog n g.x
theorem MB {A P n fn f} {l:List (Nat×Aq)} (h1:P.funcs[n]?=some fn) (h4:∀p∈l,Mt A P p.1 p.2) (h2:oM P fn f=true:=by kernel_rfl) (h3:WR fn f=l:=by kernel_rfl):Mt A P n f:=Mt.by h1 h2 h3 h4
def Aw:Go.Shelf.Ren:=⟨fun|29=>427|30=>428|n=>n,fun|0=>0|3=>3|4=>4|9=>268|24=>220|n=>n,fun n=>n⟩
theorem Be:H5 Tryz.prog Aw 385 2 where
 mixed:=by kernel_rfl
 f22:=⟨"slices.Insert[[]loop.example/g00494/impl.Pin,loop.example/g00494/impl.Pin]",by decide,Tryz.func385.trans (congrArg some (by kernel_rfl))⟩
 ov:=fun args w=>Go.run_callFunc_extern Tryz.func427 (by kernel_rfl) (by kernel_rfl) (by kernel_rfl) (by kernel_rfl) args w
 t3:=Tryz.underlying3
 a3:=Tryz.isAgg3
 z3:=Tryz.sizeOf3
 t4:=Tryz.underlying4
 a4:=Tryz.isAgg4
 t24:=Tryz.underlying220
 a24:=Tryz.isAgg220
 z9:=Tryz.sizeOf268
 el:=by kernel_rfl
 gr:=by kernel_rfl
 two:=by decide
theorem BKs:M 385 lD:=.Dw (.inl (.inl ⟨Aw,2,Be,rfl,rfl⟩))
def A1:Go.Shelf.Ren:=⟨fun|29=>413|30=>414|n=>n,fun|0=>0|3=>3|4=>4|9=>116|24=>28|n=>n,fun n=>n⟩
theorem Bk:H5 Tryz.prog A1 355 10 where
 mixed:=by kernel_rfl
 f22:=⟨"slices.Insert[[]loop.example/g00494/impl.Party,loop.example/g00494/impl.Party]",by decide,Tryz.func355.trans (congrArg some (by kernel_rfl))⟩
 ov:=fun args w=>Go.run_callFunc_extern Tryz.func413 (by kernel_rfl) (by kernel_rfl) (by kernel_rfl) (by kernel_rfl) args w
 t3:=Tryz.underlying3
 a3:=Tryz.isAgg3
 z3:=Tryz.sizeOf3
 t4:=Tryz.underlying4
 a4:=Tryz.isAgg4
 t24:=Tryz.underlying28
 a24:=Tryz.isAgg28
 z9:=Tryz.sizeOf116
 el:=by kernel_rfl
 gr:=by kernel_rfl
 two:=by decide
theorem BKq:M 355 AY8:=.Dw (.inl (.inl ⟨A1,10,Bk,rfl,rfl⟩))
def A0:Go.Shelf.Ren:=⟨fun|29=>416|30=>417|n=>n,fun|0=>0|3=>3|4=>4|9=>227|24=>120|n=>n,fun n=>n⟩
theorem Bj:H5 Tryz.prog A0 358 4 where
 mixed:=by kernel_rfl
 f22:=⟨"slices.Insert[[]loop.example/g00494/impl.Entry,loop.example/g00494/impl.Entry]",by decide,Tryz.func358.trans (congrArg some (by kernel_rfl))⟩
 ov:=fun args w=>Go.run_callFunc_extern Tryz.func416 (by kernel_rfl) (by kernel_rfl) (by kernel_rfl) (by kernel_rfl) args w
 t3:=Tryz.underlying3
 a3:=Tryz.isAgg3
 z3:=Tryz.sizeOf3
 t4:=Tryz.underlying4
 a4:=Tryz.isAgg4
 t24:=Tryz.underlying120
 a24:=Tryz.isAgg120
 z9:=Tryz.sizeOf227
 el:=by kernel_rfl
 gr:=by kernel_rfl
 two:=by decide
theorem BKr:M 358 Xk:=.Dw (.inl (.inl ⟨A0,4,Bj,rfl,rfl⟩))
def Ay:Go.Shelf.Ren:=⟨fun n=>n,fun|0=>0|3=>3|4=>4|9=>227|24=>120|n=>n,fun n=>n⟩
theorem Bh:JD Tryz.prog Ay 362 4 where
 mixed:=by kernel_rfl
 f24:=⟨"slices.Delete[[]loop.example/g00494/impl.Entry,loop.example/g00494/impl.Entry]",by decide,Tryz.func362.trans (congrArg some (by kernel_rfl))⟩
 t0:=Tryz.underlying0
 a0:=Tryz.isAgg0
 z0:=Tryz.sizeOf0
 t3:=Tryz.underlying3
 a3:=Tryz.isAgg3
 z3:=Tryz.sizeOf3
 t4:=Tryz.underlying4
 a4:=Tryz.isAgg4
 z4:=Tryz.sizeOf4
 t24:=Tryz.underlying120
 a24:=Tryz.isAgg120
 z24:=Tryz.sizeOf120
 z9:=Tryz.sizeOf227
 el:=by kernel_rfl
 gr:=by kernel_rfl
 zo:=by kernel_rfl
theorem BKt:M 362 VF:=.Dw (.inr ⟨Ay,4,Bh,rfl,rfl⟩)
def BJ:Go.Shelf.Ren:=⟨fun n=>n,fun|0=>0|3=>3|4=>4|9=>268|24=>220|n=>n,fun n=>n⟩
theorem Bt:JD Tryz.prog BJ 365 2 where
 mixed:=by kernel_rfl
 f24:=⟨"slices.Delete[[]loop.example/g00494/impl.Pin,loop.example/g00494/impl.Pin]",by decide,Tryz.func365.trans (congrArg some (by kernel_rfl))⟩
 t0:=Tryz.underlying0
 a0:=Tryz.isAgg0
 z0:=Tryz.sizeOf0
 t3:=Tryz.underlying3
 a3:=Tryz.isAgg3
 z3:=Tryz.sizeOf3
 t4:=Tryz.underlying4
 a4:=Tryz.isAgg4
 z4:=Tryz.sizeOf4
 t24:=Tryz.underlying220
 a24:=Tryz.isAgg220
 z24:=Tryz.sizeOf220
 z9:=Tryz.sizeOf268
 el:=by kernel_rfl
 gr:=by kernel_rfl
 zo:=by kernel_rfl
theorem BKu:M 365 SN:=.Dw (.inr ⟨BJ,2,Bt,rfl,rfl⟩)
def Az:Go.Shelf.Ren:=⟨fun n=>n,fun|0=>0|3=>3|4=>4|9=>116|24=>28|n=>n,fun n=>n⟩
theorem Bi:JD Tryz.prog Az 368 10 where
 mixed:=by kernel_rfl
 f24:=⟨"slices.Delete[[]loop.example/g00494/impl.Party,loop.example/g00494/impl.Party]",by decide,Tryz.func368.trans (congrArg some (by kernel_rfl))⟩
 t0:=Tryz.underlying0
 a0:=Tryz.isAgg0
 z0:=Tryz.sizeOf0
 t3:=Tryz.underlying3
 a3:=Tryz.isAgg3
 z3:=Tryz.sizeOf3
 t4:=Tryz.underlying4
 a4:=Tryz.isAgg4
 z4:=Tryz.sizeOf4
 t24:=Tryz.underlying28
 a24:=Tryz.isAgg28
 z24:=Tryz.sizeOf28
 z9:=Tryz.sizeOf116
 el:=by kernel_rfl
 gr:=by kernel_rfl
 zo:=by kernel_rfl
theorem BKv:M 368 SO:=.Dw (.inr ⟨Az,10,Bi,rfl,rfl⟩)
def rb0:List (Nat×Aq):=[(368,SO.x),(365,SN.x),(362,VF.x),(358,Xk.x),(355,AY8.x),(385,lD.x)]
abbrev MM(r:List (Nat×Aq)):Prop:=∀p∈r,Mt (PB Tryz.prog) Tryz.prog p.1 p.2
theorem mb0:MM rb0:=(.and BKv (.and BKu (.and BKt (.and BKr (.and BKq (.and BKs .none))))))
def lb1:List (Nat×GF):=[(12,VC),(61,OT),(204,SL),(133,VD),(131,ky),(132,kz),(60,VL),(13,dE),(138,Rz),(134,OD),(205,R7),(135,OJ),(275,P8),(206,R8),(207,R9),(136,OK)]
def rb1:List (Nat×Aq):=(lX lb1).reverseAux rb0
theorem mb1:MM rb1:=Mt.s mb0 (by kernel_rfl) (by kernel_rfl)
def lb2:List (Nat×GF):=[(62,OL),(223,R0),(220,OE),(221,P7),(426,P9),(384,QA),(318,QB),(357,Li),(419,QC),(418,FZ),(361,R3),(305,R4),(363,QD),(321,Mo),(306,OF),(235,Mp)]
def rb2:List (Nat×Aq):=(lX lb2).reverseAux rb1
theorem mb2:MM rb2:=Mt.s mb1 (by kernel_rfl) (by kernel_rfl)
def lb3:List (Nat×GF):=[(415,QE),(356,OG),(292,OH),(424,OI),(475,QF),(458,Mq)]
def rb3:List (Nat×Aq):=(lX lb3).reverseAux rb2
theorem mb3:MM rb3:=Mt.s mb2 (by kernel_rfl) (by kernel_rfl)
theorem BDC:M 458 Mq:=Mt.at mb3 (by kernel_rfl)
theorem A8q:(k:Nat)->Mt (PB Tryz.prog) Tryz.prog 425 (A8s k).x|0=>.Dw (.inl (.inr ⟨rfl,_,Tryz.func425,by kernel_rfl,by kernel_rfl⟩))|k+1=>MB (f:=(BC7 (A8s k)).x) Tryz.func425 (l:=[(458,Mq.x),(425,(A8s k).x),(425,(A8s k).x)]) (.and BDC (.and (A8q k) (.and (A8q k) .none)))
theorem BDD:M 425 Mr:=A8q 7
def rb4:List (Nat×Aq):=(425,Mr.x)::rb3
theorem mb4:MM rb4:=Mt.and BDD mb3
def lb5:List (Nat×GF):=[(383,R5),(317,Ml),(249,KH),(236,KI),(450,OC),(411,Ry),(429,Mm),(410,Mn),(351,EC),(284,Kt),(477,KJ),(460,Ms)]
def rb5:List (Nat×Aq):=(lX lb5).reverseAux rb4
theorem mb5:MM rb5:=Mt.s mb4 (by kernel_rfl) (by kernel_rfl)
theorem BDE:M 460 Ms:=Mt.at mb5 (by kernel_rfl)
theorem A8r:(k:Nat)->Mt (PB Tryz.prog) Tryz.prog 430 (A8t k).x|0=>.Dw (.inl (.inr ⟨rfl,_,Tryz.func430,by kernel_rfl,by kernel_rfl⟩))|k+1=>MB (f:=(BC8 (A8t k)).x) Tryz.func430 (l:=[(460,Ms.x),(430,(A8t k).x),(430,(A8t k).x)]) (.and BDE (.and (A8r k) (.and (A8r k) .none)))
theorem BDF:M 430 OM:=A8r 7
def rb6:List (Nat×Aq):=(430,OM.x)::rb5
theorem mb6:MM rb6:=Mt.and BDF mb5
def lb7:List (Nat×GF):=[(386,Jh),(320,SB),(253,QG),(283,GS),(250,QH),(251,ON),(222,SC),(285,QI),(224,QJ),(151,OO),(208,OP),(137,QL),(139,OQ),(140,FO),(141,IC),(64,SF)]
def rb7:List (Nat×Aq):=(lX lb7).reverseAux rb6
theorem mb7:MM rb7:=Mt.s mb6 (by kernel_rfl) (by kernel_rfl)
def lb8:List (Nat×GF):=[(137,SG),(64,OR),(87,E3),(63,FN),(14,IB),(65,ACO),(15,ATC),(209,ATD),(142,ATE),(210,ATF),(143,ATG),(217,ATH),(280,ATI),(281,ATJ),(218,ATK),(278,xR)]
def rb8:List (Nat×Aq):=(lX lb8).reverseAux rb7
theorem mb8:MM rb8:=Mt.s mb7 (by kernel_rfl) (by kernel_rfl)
def lb9:List (Nat×GF):=[(282,ba),(219,ALZ),(148,ACP),(256,xX),(409,ATL),(350,ATM),(276,ATN),(325,ATO),(277,ATP),(211,ATQ),(149,ATR),(279,ATS),(213,ATT),(214,ATU),(212,ATV),(215,ATA)]
def rb9:List (Nat×Aq):=(lX lb9).reverseAux rb8
theorem mb9:MM rb9:=Mt.s mb8 (by kernel_rfl) (by kernel_rfl)
def mD:List (Nat×GF):=[(216,ATB),(144,xE),(145,bZ),(66,ALX),(146,ALY),(67,ACN),(147,Fm),(68,O1),(16,T7),(69,xM),(17,cj),(86,kv),(241,SI),(168,SJ),(247,lB),(248,lC)]
def Nw:List (Nat×Aq):=(lX mD).reverseAux rb9
theorem Zc:MM Nw:=Mt.s mb9 (by kernel_rfl) (by kernel_rfl)
def ZU:List (Nat×GF):=[(287,SH),(319,lE),(252,lF),(137,R6),(157,lG),(169,lH),(88,cZ),(28,xF),(26,xG),(113,Lj),(175,QQ),(164,Ji),(84,Ku),(115,lA),(174,QK),(91,SD)]
def Nx:List (Nat×Aq):=(lX ZU).reverseAux Nw
theorem TE:MM Nx:=Mt.s Zc (by kernel_rfl) (by kernel_rfl)
def AE7:List (Nat×GF):=[(176,QP),(192,OS),(114,SK),(286,SA),(226,QN),(153,QO),(412,SP),(353,SQ),(352,SR),(288,SS),(289,Xl),(290,Ll),(227,OU),(354,OV),(353,Xm),(291,Xn)]
def Ny:List (Nat×Aq):=(lX AE7).reverseAux Nx
theorem UI:MM Ny:=Mt.s TE (by kernel_rfl) (by kernel_rfl)
def yJ:List (Nat×GF):=[(293,Xo),(360,AZB),(359,Xp),(294,lJ),(295,AD6),(228,AD7),(296,AD8),(364,AD9),(297,AEA),(366,AEB),(359,xI),(298,lK),(367,VG),(359,ANi),(299,QR),(300,ANj)]
def Nz:List (Nat×Aq):=(lX yJ).reverseAux Ny
theorem Vq:MM Nz:=Mt.s UI (by kernel_rfl) (by kernel_rfl)
def mE:List (Nat×GF):=[(229,AD5),(369,ANk),(359,Lk),(301,SM),(230,AY9),(370,VE),(359,AZA),(302,AZC),(231,cg),(371,AZD),(303,ANn),(232,AED),(233,AEE),(453,AEF),(454,AEG),(420,AEH)]
def N0:List (Nat×Aq):=(lX mE).reverseAux Nz
theorem UJ:MM N0:=Mt.s Vq (by kernel_rfl) (by kernel_rfl)
def yK:List (Nat×GF):=[(372,AEI),(455,AEJ),(474,xK),(418,ANo),(456,AEK),(421,AEL),(457,AZE),(359,AZF),(422,QT),(373,Xq),(304,JA),(234,ch),(154,SW),(77,QU),(47,QS),(70,OW)]
def N1:List (Nat×Aq):=(lX yK).reverseAux N0
theorem Zd:MM N1:=Mt.s UJ (by kernel_rfl) (by kernel_rfl)
def ZV:List (Nat×GF):=[(24,VH),(71,ID),(18,xJ),(73,lI),(72,xH),(150,kx),(74,Xj),(19,AY7),(75,SE),(225,xL),(152,SU),(76,SV),(155,ANl),(156,ANm),(158,VJ),(237,AEC)]
def N2:List (Nat×Aq):=(lX ZV).reverseAux N1
theorem Ze:MM N2:=Mt.s Zd (by kernel_rfl) (by kernel_rfl)
def ZW:List (Nat×GF):=[(159,VI),(78,dC),(20,VK),(3,GG)]
def RF:List (Nat×Aq):=(lX ZW).reverseAux N2
theorem Zf:MM RF:=Mt.s Ze (by kernel_rfl) (by kernel_rfl)
theorem bK:M 3 GG:=Mt.at Zf (by kernel_rfl)
end Go.Proofs.YtdmpkjjlnjchkaaGreat.fnNewEngine
