/-
  The functions that the law FnExactBoot reaches are the texts that are shown.
-/
import Derived.Test.YtdmpkjjlnjchkaaGreatRows
import Derived.Test.YtdmpkjjlnjchkaaGreatLF
import Derived.Test.YtdmpkjjlnjchkaaGreatPQ
import Derived.JoinedCond
noncomputable section
set_option linter.unusedVariables false
set_option linter.unusedSimpArgs false
set_option linter.unusedSectionVars false
namespace Go.Proofs.YtdmpkjjlnjchkaaGreat.fnExactBoot
open Go Lv Lv.P
set_option maxRecDepth 100000
abbrev M(n:Nat)(g:GF):Prop:=Mt (PB Tryz.prog) Tryz.prog n g.x
theorem MB {A P n fn f} {l:List (Nat×Aq)} (h1:P.funcs[n]?=some fn) (h4:∀p∈l,Mt A P p.1 p.2) (h2:oM P fn f=true:=by kernel_rfl) (h3:WR fn f=l:=by kernel_rfl):Mt A P n f:=Mt.by h1 h2 h3 h4
def Aw:Go.Shelf.Ren:=⟨fun|29=>427|30=>428|n=>n,fun|0=>0|3=>3|4=>4|9=>268|24=>220|n=>n,fun n=>n⟩
theorem Be:H5 Tryz.prog Aw 385 2 where
 mixed:=by kernel_rfl
 f22:=⟨"slices.Insert[[]loop.example/g00494/impl.Pin,loop.example/g00494/impl.Pin]",by decide,Tryz.func385.trans (congrArg some (by kernel_rfl))⟩
 ov:=fun args w=>Go.run_callFunc_extern Tryz.func427 (by kernel_rfl) (by kernel_rfl) (by kernel_rfl) (by kernel_rfl) args w
 t3:=Tryz.underlying3
 a3:=Tryz.isAgg3
 z3:=Tryz.sizeOf3
 t4:=Tryz.underlying4
 a4:=Tryz.isAgg4
 t24:=Tryz.underlying220
 a24:=Tryz.isAgg220
 z9:=Tryz.sizeOf268
 el:=by kernel_rfl
 gr:=by kernel_rfl
 two:=by decide
theorem At9:M 385 AED:=.Dw (.inl (.inl ⟨Aw,2,Be,rfl,rfl⟩))
def A1:Go.Shelf.Ren:=⟨fun|29=>413|30=>414|n=>n,fun|0=>0|3=>3|4=>4|9=>116|24=>28|n=>n,fun n=>n⟩
theorem Bk:H5 Tryz.prog A1 355 10 where
 mixed:=by kernel_rfl
 f22:=⟨"slices.Insert[[]loop.example/g00494/impl.Party,loop.example/g00494/impl.Party]",by decide,Tryz.func355.trans (congrArg some (by kernel_rfl))⟩
 ov:=fun args w=>Go.run_callFunc_extern Tryz.func413 (by kernel_rfl) (by kernel_rfl) (by kernel_rfl) (by kernel_rfl) args w
 t3:=Tryz.underlying3
 a3:=Tryz.isAgg3
 z3:=Tryz.sizeOf3
 t4:=Tryz.underlying4
 a4:=Tryz.isAgg4
 t24:=Tryz.underlying28
 a24:=Tryz.isAgg28
 z9:=Tryz.sizeOf116
 el:=by kernel_rfl
 gr:=by kernel_rfl
 two:=by decide
theorem AuA:M 355 ANp:=.Dw (.inl (.inl ⟨A1,10,Bk,rfl,rfl⟩))
def A0:Go.Shelf.Ren:=⟨fun|29=>416|30=>417|n=>n,fun|0=>0|3=>3|4=>4|9=>227|24=>120|n=>n,fun n=>n⟩
theorem Bj:H5 Tryz.prog A0 358 4 where
 mixed:=by kernel_rfl
 f22:=⟨"slices.Insert[[]loop.example/g00494/impl.Entry,loop.example/g00494/impl.Entry]",by decide,Tryz.func358.trans (congrArg some (by kernel_rfl))⟩
 ov:=fun args w=>Go.run_callFunc_extern Tryz.func416 (by kernel_rfl) (by kernel_rfl) (by kernel_rfl) (by kernel_rfl) args w
 t3:=Tryz.underlying3
 a3:=Tryz.isAgg3
 z3:=Tryz.sizeOf3
 t4:=Tryz.underlying4
 a4:=Tryz.isAgg4
 t24:=Tryz.underlying120
 a24:=Tryz.isAgg120
 z9:=Tryz.sizeOf227
 el:=by kernel_rfl
 gr:=by kernel_rfl
 two:=by decide
theorem AuB:M 358 ANq:=.Dw (.inl (.inl ⟨A0,4,Bj,rfl,rfl⟩))
def Ay:Go.Shelf.Ren:=⟨fun n=>n,fun|0=>0|3=>3|4=>4|9=>227|24=>120|n=>n,fun n=>n⟩
theorem Bh:JD Tryz.prog Ay 362 4 where
 mixed:=by kernel_rfl
 f24:=⟨"slices.Delete[[]loop.example/g00494/impl.Entry,loop.example/g00494/impl.Entry]",by decide,Tryz.func362.trans (congrArg some (by kernel_rfl))⟩
 t0:=Tryz.underlying0
 a0:=Tryz.isAgg0
 z0:=Tryz.sizeOf0
 t3:=Tryz.underlying3
 a3:=Tryz.isAgg3
 z3:=Tryz.sizeOf3
 t4:=Tryz.underlying4
 a4:=Tryz.isAgg4
 z4:=Tryz.sizeOf4
 t24:=Tryz.underlying120
 a24:=Tryz.isAgg120
 z24:=Tryz.sizeOf120
 z9:=Tryz.sizeOf227
 el:=by kernel_rfl
 gr:=by kernel_rfl
 zo:=by kernel_rfl
theorem AuC:M 362 ANr:=.Dw (.inr ⟨Ay,4,Bh,rfl,rfl⟩)
def BJ:Go.Shelf.Ren:=⟨fun n=>n,fun|0=>0|3=>3|4=>4|9=>268|24=>220|n=>n,fun n=>n⟩
theorem Bt:JD Tryz.prog BJ 365 2 where
 mixed:=by kernel_rfl
 f24:=⟨"slices.Delete[[]loop.example/g00494/impl.Pin,loop.example/g00494/impl.Pin]",by decide,Tryz.func365.trans (congrArg some (by kernel_rfl))⟩
 t0:=Tryz.underlying0
 a0:=Tryz.isAgg0
 z0:=Tryz.sizeOf0
 t3:=Tryz.underlying3
 a3:=Tryz.isAgg3
 z3:=Tryz.sizeOf3
 t4:=Tryz.underlying4
 a4:=Tryz.isAgg4
 z4:=Tryz.sizeOf4
 t24:=Tryz.underlying220
 a24:=Tryz.isAgg220
 z24:=Tryz.sizeOf220
 z9:=Tryz.sizeOf268
 el:=by kernel_rfl
 gr:=by kernel_rfl
 zo:=by kernel_rfl
theorem AuD:M 365 dB:=.Dw (.inr ⟨BJ,2,Bt,rfl,rfl⟩)
def Az:Go.Shelf.Ren:=⟨fun n=>n,fun|0=>0|3=>3|4=>4|9=>116|24=>28|n=>n,fun n=>n⟩
theorem Bi:JD Tryz.prog Az 368 10 where
 mixed:=by kernel_rfl
 f24:=⟨"slices.Delete[[]loop.example/g00494/impl.Party,loop.example/g00494/impl.Party]",by decide,Tryz.func368.trans (congrArg some (by kernel_rfl))⟩
 t0:=Tryz.underlying0
 a0:=Tryz.isAgg0
 z0:=Tryz.sizeOf0
 t3:=Tryz.underlying3
 a3:=Tryz.isAgg3
 z3:=Tryz.sizeOf3
 t4:=Tryz.underlying4
 a4:=Tryz.isAgg4
 z4:=Tryz.sizeOf4
 t24:=Tryz.underlying28
 a24:=Tryz.isAgg28
 z24:=Tryz.sizeOf28
 z9:=Tryz.sizeOf116
 el:=by kernel_rfl
 gr:=by kernel_rfl
 zo:=by kernel_rfl
theorem AuE:M 368 Xr:=.Dw (.inr ⟨Az,10,Bi,rfl,rfl⟩)
def rb0:List (Nat×Aq):=[(368,Xr.x),(365,dB.x),(362,ANr.x),(358,ANq.x),(355,ANp.x),(385,AED.x)]
abbrev MM(r:List (Nat×Aq)):Prop:=∀p∈r,Mt (PB Tryz.prog) Tryz.prog p.1 p.2
theorem mb0:MM rb0:=(.and AuE (.and AuD (.and AuC (.and AuB (.and AuA (.and At9 .none))))))
def lb1:List (Nat×GF):=[(79,ACO),(21,ATC),(83,ATD),(23,ATE),(160,QT),(65,ATF),(146,T7),(240,AD9),(163,AEA),(310,AEI),(309,AEJ),(308,xK),(15,ATG),(307,ANo),(256,ATO),(311,AEK)]
def rb1:List (Nat×Aq):=(lX lb1).reverseAux rb0
theorem mb1:MM rb1:=Mt.s mb0 (by kernel_rfl) (by kernel_rfl)
def lb2:List (Nat×GF):=[(209,ATH),(282,ATL),(279,ATA),(214,xE),(374,xG),(326,OU),(278,xX),(219,ATM),(375,AZA),(312,AEL),(215,ALX),(216,ALY),(409,ATP),(350,ATQ),(276,ATR),(280,ba)]
def rb2:List (Nat×Aq):=(lX lb2).reverseAux rb1
theorem mb2:MM rb2:=Mt.s mb1 (by kernel_rfl) (by kernel_rfl)
def lb3:List (Nat×GF):=[(325,ATS),(277,ATT),(211,ATU),(142,ATI),(210,ATJ),(143,ATK),(217,xR),(281,ALZ),(218,ACP),(148,ATN),(149,ATV),(213,ATB),(212,bZ),(144,ACN),(145,Fm),(66,O1)]
def rb3:List (Nat×Aq):=(lX lb3).reverseAux rb2
theorem mb3:MM rb3:=Mt.s mb2 (by kernel_rfl) (by kernel_rfl)
def lb4:List (Nat×GF):=[(376,QO),(313,QP),(73,AZE),(238,AZF),(179,QQ),(178,SI),(181,SJ),(180,OS),(239,Ji),(161,Xq),(80,JA),(27,ch),(67,Rz),(199,ANi),(97,Xo),(162,QR)]
def rb4:List (Nat×Aq):=(lX lb4).reverseAux rb3
theorem mb4:MM rb4:=Mt.s mb3 (by kernel_rfl) (by kernel_rfl)
def lb5:List (Nat×GF):=[(81,ANj),(111,Se),(147,OD),(68,R0),(96,Xn),(82,AEB),(110,Lk),(257,xF),(258,OV),(177,Xm),(388,AY9),(333,cj),(334,QS),(332,OW),(398,VH),(335,ID)]
def rb5:List (Nat×Aq):=(lX lb5).reverseAux rb4
theorem mb5:MM rb5:=Mt.s mb4 (by kernel_rfl) (by kernel_rfl)
def lb6:List (Nat×GF):=[(262,xJ),(336,VE),(337,SU),(399,SV),(338,ANl),(339,AZC),(263,ANm),(400,AEC),(345,VI),(340,VJ),(341,dC),(401,VK),(402,VL),(342,dE),(264,OX),(403,Xt)]
def rb6:List (Nat×Aq):=(lX lb6).reverseAux rb5
theorem mb6:MM rb6:=Mt.s mb5 (by kernel_rfl) (by kernel_rfl)
def lb7:List (Nat×GF):=[(343,SX),(265,ANs),(344,dF),(266,Xu),(404,xO),(346,dG),(267,lL),(268,lM),(405,xP),(464,CN),(438,lN),(406,KK),(465,ANt),(466,QV),(439,AZH),(440,OY)]
def rb7:List (Nat×Aq):=(lX lb7).reverseAux rb6
theorem mb7:MM rb7:=Mt.s mb6 (by kernel_rfl) (by kernel_rfl)
def lb8:List (Nat×GF):=[(407,Mv),(407,AZI),(347,Mu),(269,AZG),(191,xN),(112,Lm),(46,YY),(69,YZ),(17,VT),(22,Ya),(125,Yb),(126,Xs),(51,YG),(86,SW),(138,OE),(87,SD)]
def rb8:List (Nat×Aq):=(lX lb8).reverseAux rb7
theorem mb8:MM rb8:=Mt.s mb7 (by kernel_rfl) (by kernel_rfl)
def lb9:List (Nat×GF):=[(139,VC),(241,xI),(168,lK),(247,AZD),(205,xH),(134,P7),(248,ANn),(223,P8),(220,P9),(415,OI),(356,QF),(292,Mq),(424,Mr),(475,R5),(458,Ml)]
def rb9:List (Nat×Aq):=(lX lb9).reverseAux rb8
theorem mb9:MM rb9:=Mt.s mb8 (by kernel_rfl) (by kernel_rfl)
theorem At5:M 458 Ml:=Mt.at mb9 (by kernel_rfl)
theorem AqX:(k:Nat)->Mt (PB Tryz.prog) Tryz.prog 425 (Aqe k).x|0=>.Dw (.inl (.inr ⟨rfl,_,Tryz.func425,by kernel_rfl,by kernel_rfl⟩))|k+1=>MB (f:=(AvP (Aqe k)).x) Tryz.func425 (l:=[(458,Ml.x),(425,(Aqe k).x),(425,(Aqe k).x)]) (.and At5 (.and (AqX k) (.and (AqX k) .none)))
theorem At6:M 425 KH:=AqX 7
def Nw:List (Nat×Aq):=(425,KH.x)::rb9
theorem Zc:MM Nw:=Mt.and At6 mb9
def ZU:List (Nat×GF):=[(383,KI),(317,OC),(426,Li),(384,QC),(318,FZ),(249,Ry),(250,QI),(251,QJ),(429,Kt),(477,Jh),(460,SB)]
def Nx:List (Nat×Aq):=(lX ZU).reverseAux Nw
theorem TE:MM Nx:=Mt.s Zc (by kernel_rfl) (by kernel_rfl)
theorem At7:M 460 SB:=Mt.at TE (by kernel_rfl)
theorem AqY:(k:Nat)->Mt (PB Tryz.prog) Tryz.prog 430 (Aqf k).x|0=>.Dw (.inl (.inr ⟨rfl,_,Tryz.func430,by kernel_rfl,by kernel_rfl⟩))|k+1=>MB (f:=(AvQ (Aqf k)).x) Tryz.func430 (l:=[(460,SB.x),(430,(Aqf k).x),(430,(Aqf k).x)]) (.and At7 (.and (AqY k) (.and (AqY k) .none)))
theorem At8:M 430 QG:=AqY 7
def Ny:List (Nat×Aq):=(430,QG.x)::Nx
theorem UI:MM Ny:=Mt.and At8 TE
def yJ:List (Nat×GF):=[(386,GS),(320,QH),(321,QE),(253,ON),(207,Xj),(287,Xp),(363,Mp),(306,OG),(319,AEE),(252,AEF),(221,QA),(275,QB),(357,R3),(419,R4),(418,QD),(361,Mo)]
def Nz:List (Nat×Aq):=(lX yJ).reverseAux Ny
theorem Vq:MM Nz:=Mt.s UI (by kernel_rfl) (by kernel_rfl)
def mE:List (Nat×GF):=[(305,OF),(235,OH),(236,Mm),(450,Mn),(411,EC),(410,KJ),(351,Ms),(284,OM),(283,SC),(222,OO),(285,E3),(224,Lj),(151,QK),(208,Ku),(137,lB),(157,AEG)]
def N0:List (Nat×Aq):=(lX mE).reverseAux Nz
theorem UJ:MM N0:=Mt.s Vq (by kernel_rfl) (by kernel_rfl)
def yK:List (Nat×GF):=[(169,AEH),(137,SK),(140,OT),(141,SL),(64,VD),(137,ky),(64,kz),(88,QU),(28,xL),(26,xM),(113,SE),(175,AD8),(164,AD5),(84,ANk),(115,cg),(174,OP)]
def N1:List (Nat×Aq):=(lX yK).reverseAux N0
theorem Zd:MM N1:=Mt.s UJ (by kernel_rfl) (by kernel_rfl)
def ZV:List (Nat×GF):=[(91,QL),(176,AD7),(192,VG),(114,SM),(135,kx),(286,AZB),(226,lJ),(153,AD6),(412,Jj),(353,SY),(352,Xv),(288,SZ),(289,Xw),(290,Sa),(227,Xx),(354,VM)]
def N2:List (Nat×Aq):=(lX ZV).reverseAux N1
theorem Ze:MM N2:=Mt.s Zd (by kernel_rfl) (by kernel_rfl)
def ZW:List (Nat×GF):=[(353,Xy),(291,Xz),(293,YA),(360,QW),(359,YB),(294,VN),(295,YC),(228,QX),(296,QY),(364,YD),(297,YE),(366,QZ),(359,Sb),(298,AZP),(367,ANx),(359,AZQ)]
def RF:List (Nat×Aq):=(lX ZW).reverseAux N2
theorem Zf:MM RF:=Mt.s Ze (by kernel_rfl) (by kernel_rfl)
def AE8:List (Nat×GF):=[(299,ANy),(300,AZR),(229,ANu),(369,AZJ),(359,ANv),(301,AZK),(230,ANw),(370,AZL),(359,AZM),(302,AZN),(231,AZO),(371,AEM),(303,AEN),(232,AEO),(233,lO),(453,ANz)]
def jQ:List (Nat×Aq):=(lX AE8).reverseAux RF
theorem AFD:MM jQ:=Mt.s Zf (by kernel_rfl) (by kernel_rfl)
def AE9:List (Nat×GF):=[(454,KL),(420,VP),(372,YQ),(455,YR),(474,YS),(418,Kv),(456,VQ),(421,Mw),(457,YT),(359,YU),(422,YV),(373,VR),(304,VS),(234,Sd),(154,YW),(77,YX)]
def jR:List (Nat×Aq):=(lX AE9).reverseAux jQ
theorem AFE:MM jR:=Mt.s AFD (by kernel_rfl) (by kernel_rfl)
def AFA:List (Nat×GF):=[(47,YH),(70,VO),(24,YI),(71,YJ),(63,AY7),(18,YK),(59,OQ),(116,FO),(193,IC),(117,SF),(270,SG),(348,OR),(271,QM),(441,R6),(408,R7),(349,OJ)]
def jS:List (Nat×Aq):=(lX AFA).reverseAux jR
theorem AFF:MM jS:=Mt.s AFE (by kernel_rfl) (by kernel_rfl)
def AFB:List (Nat×GF):=[(272,R8),(194,R9),(118,OK),(48,OL),(189,FN),(104,IB),(190,SA),(105,SH),(40,QN),(107,lC),(119,lD),(120,lE),(195,lF),(273,lG),(196,lH),(121,lI)]
def mZ:List (Nat×Aq):=(lX AFB).reverseAux jS
theorem AFG:MM mZ:=Mt.s AFF (by kernel_rfl) (by kernel_rfl)
def AOh:List (Nat×GF):=[(49,kv),(106,AY8),(42,Xk),(109,cZ),(122,VF),(123,SN),(197,SO),(274,SP),(198,SQ),(124,SR),(50,SS),(108,Xl),(44,Ll),(9,GB)]
def AFw:List (Nat×Aq):=(lX AOh).reverseAux mZ
theorem AOl:MM AFw:=Mt.s AFG (by kernel_rfl) (by kernel_rfl)
theorem bH:M 9 GB:=Mt.at AOl (by kernel_rfl)
end Go.Proofs.YtdmpkjjlnjchkaaGreat.fnExactBoot
