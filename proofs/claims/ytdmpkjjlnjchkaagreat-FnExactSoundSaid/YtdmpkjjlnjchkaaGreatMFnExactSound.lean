/-
  The functions that the law FnExactSound reaches are the texts that are shown.
-/
import Derived.Test.YtdmpkjjlnjchkaaGreatRows
import Derived.Test.YtdmpkjjlnjchkaaGreatLF
import Derived.Test.YtdmpkjjlnjchkaaGreatPQ1
import Derived.JoinedCond
noncomputable section
set_option linter.unusedVariables false
set_option linter.unusedSimpArgs false
set_option linter.unusedSectionVars false
namespace Go.Proofs.YtdmpkjjlnjchkaaGreat.fnExactSound
open Go Lv Lv.P
set_option maxRecDepth 100000
abbrev M(n:Nat)(g:GF):Prop:=Mt (PB Tryz.prog) Tryz.prog n g.x
theorem MB {A P n fn f} {l:List (Nat×Aq)} (h1:P.funcs[n]?=some fn) (h4:∀p∈l,Mt A P p.1 p.2) (h2:oM P fn f=true:=by kernel_rfl) (h3:WR fn f=l:=by kernel_rfl):Mt A P n f:=Mt.by h1 h2 h3 h4
def Aw:Go.Shelf.Ren:=⟨fun|29=>427|30=>428|n=>n,fun|0=>0|3=>3|4=>4|9=>268|24=>220|n=>n,fun n=>n⟩
theorem Be:H5 Tryz.prog Aw 385 2 where
 mixed:=by kernel_rfl
 f22:=⟨"slices.Insert[[]loop.example/g00494/impl.Pin,loop.example/g00494/impl.Pin]",by decide,Tryz.func385.trans (congrArg some (by kernel_rfl))⟩
 ov:=fun args w=>Go.run_callFunc_extern Tryz.func427 (by kernel_rfl) (by kernel_rfl) (by kernel_rfl) (by kernel_rfl) args w
 t3:=Tryz.underlying3
 a3:=Tryz.isAgg3
 z3:=Tryz.sizeOf3
 t4:=Tryz.underlying4
 a4:=Tryz.isAgg4
 t24:=Tryz.underlying220
 a24:=Tryz.isAgg220
 z9:=Tryz.sizeOf268
 el:=by kernel_rfl
 gr:=by kernel_rfl
 two:=by decide
theorem Am8:M 385 Xq:=.Dw (.inl (.inl ⟨Aw,2,Be,rfl,rfl⟩))
def A1:Go.Shelf.Ren:=⟨fun|29=>413|30=>414|n=>n,fun|0=>0|3=>3|4=>4|9=>116|24=>28|n=>n,fun n=>n⟩
theorem Bk:H5 Tryz.prog A1 355 10 where
 mixed:=by kernel_rfl
 f22:=⟨"slices.Insert[[]loop.example/g00494/impl.Party,loop.example/g00494/impl.Party]",by decide,Tryz.func355.trans (congrArg some (by kernel_rfl))⟩
 ov:=fun args w=>Go.run_callFunc_extern Tryz.func413 (by kernel_rfl) (by kernel_rfl) (by kernel_rfl) (by kernel_rfl) args w
 t3:=Tryz.underlying3
 a3:=Tryz.isAgg3
 z3:=Tryz.sizeOf3
 t4:=Tryz.underlying4
 a4:=Tryz.isAgg4
 t24:=Tryz.underlying28
 a24:=Tryz.isAgg28
 z9:=Tryz.sizeOf116
 el:=by kernel_rfl
 gr:=by kernel_rfl
 two:=by decide
theorem Am9:M 355 YB:=.Dw (.inl (.inl ⟨A1,10,Bk,rfl,rfl⟩))
def A0:Go.Shelf.Ren:=⟨fun|29=>416|30=>417|n=>n,fun|0=>0|3=>3|4=>4|9=>227|24=>120|n=>n,fun n=>n⟩
theorem Bj:H5 Tryz.prog A0 358 4 where
 mixed:=by kernel_rfl
 f22:=⟨"slices.Insert[[]loop.example/g00494/impl.Entry,loop.example/g00494/impl.Entry]",by decide,Tryz.func358.trans (congrArg some (by kernel_rfl))⟩
 ov:=fun args w=>Go.run_callFunc_extern Tryz.func416 (by kernel_rfl) (by kernel_rfl) (by kernel_rfl) (by kernel_rfl) args w
 t3:=Tryz.underlying3
 a3:=Tryz.isAgg3
 z3:=Tryz.sizeOf3
 t4:=Tryz.underlying4
 a4:=Tryz.isAgg4
 t24:=Tryz.underlying120
 a24:=Tryz.isAgg120
 z9:=Tryz.sizeOf227
 el:=by kernel_rfl
 gr:=by kernel_rfl
 two:=by decide
theorem AnA:M 358 VN:=.Dw (.inl (.inl ⟨A0,4,Bj,rfl,rfl⟩))
def Ay:Go.Shelf.Ren:=⟨fun n=>n,fun|0=>0|3=>3|4=>4|9=>227|24=>120|n=>n,fun n=>n⟩
theorem Bh:JD Tryz.prog Ay 362 4 where
 mixed:=by kernel_rfl
 f24:=⟨"slices.Delete[[]loop.example/g00494/impl.Entry,loop.example/g00494/impl.Entry]",by decide,Tryz.func362.trans (congrArg some (by kernel_rfl))⟩
 t0:=Tryz.underlying0
 a0:=Tryz.isAgg0
 z0:=Tryz.sizeOf0
 t3:=Tryz.underlying3
 a3:=Tryz.isAgg3
 z3:=Tryz.sizeOf3
 t4:=Tryz.underlying4
 a4:=Tryz.isAgg4
 z4:=Tryz.sizeOf4
 t24:=Tryz.underlying120
 a24:=Tryz.isAgg120
 z24:=Tryz.sizeOf120
 z9:=Tryz.sizeOf227
 el:=by kernel_rfl
 gr:=by kernel_rfl
 zo:=by kernel_rfl
theorem AnB:M 362 YC:=.Dw (.inr ⟨Ay,4,Bh,rfl,rfl⟩)
def BJ:Go.Shelf.Ren:=⟨fun n=>n,fun|0=>0|3=>3|4=>4|9=>268|24=>220|n=>n,fun n=>n⟩
theorem Bt:JD Tryz.prog BJ 365 2 where
 mixed:=by kernel_rfl
 f24:=⟨"slices.Delete[[]loop.example/g00494/impl.Pin,loop.example/g00494/impl.Pin]",by decide,Tryz.func365.trans (congrArg some (by kernel_rfl))⟩
 t0:=Tryz.underlying0
 a0:=Tryz.isAgg0
 z0:=Tryz.sizeOf0
 t3:=Tryz.underlying3
 a3:=Tryz.isAgg3
 z3:=Tryz.sizeOf3
 t4:=Tryz.underlying4
 a4:=Tryz.isAgg4
 z4:=Tryz.sizeOf4
 t24:=Tryz.underlying220
 a24:=Tryz.isAgg220
 z24:=Tryz.sizeOf220
 z9:=Tryz.sizeOf268
 el:=by kernel_rfl
 gr:=by kernel_rfl
 zo:=by kernel_rfl
theorem AnC:M 365 QX:=.Dw (.inr ⟨BJ,2,Bt,rfl,rfl⟩)
def Az:Go.Shelf.Ren:=⟨fun n=>n,fun|0=>0|3=>3|4=>4|9=>116|24=>28|n=>n,fun n=>n⟩
theorem Bi:JD Tryz.prog Az 368 10 where
 mixed:=by kernel_rfl
 f24:=⟨"slices.Delete[[]loop.example/g00494/impl.Party,loop.example/g00494/impl.Party]",by decide,Tryz.func368.trans (congrArg some (by kernel_rfl))⟩
 t0:=Tryz.underlying0
 a0:=Tryz.isAgg0
 z0:=Tryz.sizeOf0
 t3:=Tryz.underlying3
 a3:=Tryz.isAgg3
 z3:=Tryz.sizeOf3
 t4:=Tryz.underlying4
 a4:=Tryz.isAgg4
 z4:=Tryz.sizeOf4
 t24:=Tryz.underlying28
 a24:=Tryz.isAgg28
 z24:=Tryz.sizeOf28
 z9:=Tryz.sizeOf116
 el:=by kernel_rfl
 gr:=by kernel_rfl
 zo:=by kernel_rfl
theorem AnD:M 368 QY:=.Dw (.inr ⟨Az,10,Bi,rfl,rfl⟩)
def rb0:List (Nat×Aq):=[(368,QY.x),(365,QX.x),(362,YC.x),(358,VN.x),(355,YB.x),(385,Xq.x)]
abbrev MM(r:List (Nat×Aq)):Prop:=∀p∈r,Mt (PB Tryz.prog) Tryz.prog p.1 p.2
theorem mb0:MM rb0:=(.and AnD (.and AnC (.and AnB (.and AnA (.and Am9 (.and Am8 .none))))))
def lb1:List (Nat×GF):=[(185,ACO),(182,ATC),(183,ATD),(327,ATE),(436,ATF),(395,ATG),(328,ATH),(259,ATI),(184,ATJ),(98,ATK),(79,xR),(21,ba),(99,ALZ),(35,ACP),(56,xX),(186,ATL)]
def rb1:List (Nat×Aq):=(lX lb1).reverseAux rb0
theorem mb1:MM rb1:=Mt.s mb0 (by kernel_rfl) (by kernel_rfl)
def lb2:List (Nat×GF):=[(260,ATM),(187,ATN),(329,ATO),(396,ATP),(330,ATQ),(463,ATR),(437,ATS),(397,ATT),(331,ATU),(261,ATV),(188,ATA),(101,ATB),(83,xE),(23,bZ),(38,ALX),(102,ALY)]
def rb2:List (Nat×Aq):=(lX lb2).reverseAux rb1
theorem mb2:MM rb2:=Mt.s mb1 (by kernel_rfl) (by kernel_rfl)
def lb3:List (Nat×GF):=[(37,ACN),(65,Fm),(15,O1),(209,T7),(142,Rz),(210,OD),(143,R0),(217,OE),(280,P7),(281,P8),(218,P9),(278,QA),(282,QB),(219,Li),(148,QC),(256,FZ)]
def rb3:List (Nat×Aq):=(lX lb3).reverseAux rb2
theorem mb3:MM rb3:=Mt.s mb2 (by kernel_rfl) (by kernel_rfl)
def lb4:List (Nat×GF):=[(409,R3),(350,R4),(276,QD),(325,Mo),(277,OF),(211,Mp),(149,QE),(279,OG),(213,OH),(214,OI),(212,QF),(215,Mq),(216,Mr),(144,R5),(145,Ml),(66,KH)]
def rb4:List (Nat×Aq):=(lX lb4).reverseAux rb3
theorem mb4:MM rb4:=Mt.s mb3 (by kernel_rfl) (by kernel_rfl)
def lb5:List (Nat×GF):=[(146,KI),(67,OC),(147,Ry),(68,Mm),(16,Mn),(257,AZB),(326,xI),(258,lK),(177,VG),(388,xK),(333,Xt),(334,SX),(332,ANs),(398,dF),(335,Xu),(262,xO)]
def rb5:List (Nat×Aq):=(lX lb5).reverseAux rb4
theorem mb5:MM rb5:=Mt.s mb4 (by kernel_rfl) (by kernel_rfl)
def lb6:List (Nat×GF):=[(336,ANo),(337,dG),(399,lL),(338,lM),(339,AEL),(263,xP),(400,CN),(345,lN),(340,KK),(341,ANt),(401,QV),(402,AZH),(342,OY),(264,Mv),(403,AZI),(343,Mu)]
def rb6:List (Nat×Aq):=(lX lb6).reverseAux rb5
theorem mb6:MM rb6:=Mt.s mb5 (by kernel_rfl) (by kernel_rfl)
def lb7:List (Nat×GF):=[(265,AZG),(344,xN),(266,Lm),(404,ANp),(346,ANq),(267,ANr),(268,dB),(405,Xr),(464,Xs),(438,Jj),(406,SY),(465,Xv),(466,SZ),(439,Xw),(440,Sa),(375,AEK)]
def rb7:List (Nat×Aq):=(lX lb7).reverseAux rb6
theorem mb7:MM rb7:=Mt.s mb6 (by kernel_rfl) (by kernel_rfl)
def lb8:List (Nat×GF):=[(407,Xx),(407,VM),(347,Xy),(269,Xz),(191,YA),(112,QW),(201,Yp),(199,AED),(200,K1),(127,Sn),(160,SU),(240,VE),(163,AZA),(310,xL),(309,xM),(308,cj)]
def rb8:List (Nat×Aq):=(lX lb8).reverseAux rb7
theorem mb8:MM rb8:=Mt.s mb7 (by kernel_rfl) (by kernel_rfl)
def lb9:List (Nat×GF):=[(307,QS),(311,OW),(374,Xp),(312,VH),(376,AY7),(313,AY8),(73,ID),(238,xJ),(179,Xk),(178,VF),(181,SN),(180,SO),(239,SP),(161,SV),(80,ANl),(27,ANm)]
def rb9:List (Nat×Aq):=(lX lb9).reverseAux rb8
theorem mb9:MM rb9:=Mt.s mb8 (by kernel_rfl) (by kernel_rfl)
def mD:List (Nat×GF):=[(97,QR),(162,AEE),(81,AEF),(111,Yh),(96,ANi),(82,AZC),(110,AEI),(46,Yi),(22,Yl),(72,VK),(150,VL),(74,dE),(19,OX),(52,Yc),(138,EC),(134,Kt)]
def Nw:List (Nat×Aq):=(lX mD).reverseAux rb9
theorem Zc:MM Nw:=Mt.s mb9 (by kernel_rfl) (by kernel_rfl)
def ZU:List (Nat×GF):=[(223,KJ),(220,Ms),(221,OM),(275,Jh),(426,SB),(384,QG),(318,GS),(357,QH),(419,ON),(418,SC),(361,QI),(305,QJ),(363,OO),(321,E3),(306,Lj),(235,QK)]
def Nx:List (Nat×Aq):=(lX ZU).reverseAux Nw
theorem TE:MM Nx:=Mt.s Zc (by kernel_rfl) (by kernel_rfl)
def AE7:List (Nat×GF):=[(415,SD),(356,SE),(292,OP),(424,QL),(475,OQ),(458,FO)]
def Ny:List (Nat×Aq):=(lX AE7).reverseAux Nx
theorem UI:MM Ny:=Mt.s TE (by kernel_rfl) (by kernel_rfl)
theorem Jp:M 458 FO:=Mt.at UI (by kernel_rfl)
theorem Da:(k:Nat)->Mt (PB Tryz.prog) Tryz.prog 425 (E6 k).x|0=>.Dw (.inl (.inr ⟨rfl,_,Tryz.func425,by kernel_rfl,by kernel_rfl⟩))|k+1=>MB (f:=(Rx (E6 k)).x) Tryz.func425 (l:=[(458,FO.x),(425,(E6 k).x),(425,(E6 k).x)]) (.and Jp (.and (Da k) (.and (Da k) .none)))
theorem Jq:M 425 IC:=Da 7
def Nz:List (Nat×Aq):=(425,IC.x)::Ny
theorem Vq:MM Nz:=Mt.and Jq UI
def mE:List (Nat×GF):=[(383,SF),(317,SG),(249,OR),(236,QM),(450,R6),(411,R7),(429,OJ),(410,R8),(351,R9),(284,OK),(477,OL),(460,FN)]
def N0:List (Nat×Aq):=(lX mE).reverseAux Nz
theorem UJ:MM N0:=Mt.s Vq (by kernel_rfl) (by kernel_rfl)
theorem Jn:M 460 FN:=Mt.at UJ (by kernel_rfl)
theorem DZ:(k:Nat)->Mt (PB Tryz.prog) Tryz.prog 430 (E5 k).x|0=>.Dw (.inl (.inr ⟨rfl,_,Tryz.func430,by kernel_rfl,by kernel_rfl⟩))|k+1=>MB (f:=(Rv (E5 k)).x) Tryz.func430 (l:=[(460,FN.x),(430,(E5 k).x),(430,(E5 k).x)]) (.and Jn (.and (DZ k) (.and (DZ k) .none)))
theorem Jo:M 430 IB:=DZ 7
def N1:List (Nat×Aq):=(430,IB.x)::N0
theorem Zd:MM N1:=Mt.and Jo UJ
def ZV:List (Nat×GF):=[(386,SA),(320,SH),(253,QN),(283,QO),(250,QP),(251,QQ),(222,SI),(285,SJ),(224,OS),(151,Ji),(87,Ku),(113,SK),(174,VC),(91,OT),(75,SL),(225,VX)]
def N2:List (Nat×Aq):=(lX ZV).reverseAux N1
theorem Ze:MM N2:=Mt.s Zd (by kernel_rfl) (by kernel_rfl)
def ZW:List (Nat×GF):=[(152,So),(76,VU),(86,AEC),(139,SS),(241,cg),(168,AZD),(247,AZF),(205,lJ),(248,QT),(207,AD7),(287,AD5),(319,JA),(252,ch),(208,SQ),(137,Xo),(157,SW)]
def RF:List (Nat×Aq):=(lX ZW).reverseAux N2
theorem Zf:MM RF:=Mt.s Ze (by kernel_rfl) (by kernel_rfl)
def AE8:List (Nat×GF):=[(169,QU),(137,SR),(140,Xl),(141,Ll),(64,OU),(137,OV),(64,Xm),(88,VI),(28,VJ),(26,dC),(175,AY9),(164,AEG),(84,AEH),(115,AZE),(176,SM),(192,ANn)]
def jQ:List (Nat×Aq):=(lX AE8).reverseAux RF
theorem AFD:MM jQ:=Mt.s Zf (by kernel_rfl) (by kernel_rfl)
def AE9:List (Nat×GF):=[(114,AEJ),(135,AD6),(286,ANj),(226,ANk),(153,Lk),(412,YE),(353,QZ),(352,Sb),(288,AZP),(289,ANx),(290,AZQ),(227,ANy),(354,AZR),(353,ANu),(291,AZJ),(293,ANv)]
def jR:List (Nat×Aq):=(lX AE9).reverseAux jQ
theorem AFE:MM jR:=Mt.s AFD (by kernel_rfl) (by kernel_rfl)
def AFA:List (Nat×GF):=[(360,AZK),(359,ANw),(294,AZL),(295,AZM),(228,AZN),(296,AZO),(364,AEM),(297,AEN),(366,AEO),(359,lO),(298,ANz),(367,KL),(359,VP),(299,YQ),(300,YR),(229,YS)]
def jS:List (Nat×Aq):=(lX AFA).reverseAux jR
theorem AFF:MM jS:=Mt.s AFE (by kernel_rfl) (by kernel_rfl)
def AFB:List (Nat×GF):=[(369,Kv),(359,VQ),(301,Mw),(230,YT),(370,YU),(359,YV),(302,VR),(231,VS),(371,Sd),(303,YW),(232,YX),(233,Se),(453,YY),(454,YZ),(420,VT),(372,Ya)]
def mZ:List (Nat×Aq):=(lX AFB).reverseAux jS
theorem AFG:MM mZ:=Mt.s AFF (by kernel_rfl) (by kernel_rfl)
def AOh:List (Nat×GF):=[(455,Yb),(474,YG),(418,YH),(456,VO),(421,YI),(457,YJ),(359,YK),(422,YL),(373,YM),(304,YN),(234,YP),(154,Yg),(77,VW),(47,Kx),(155,Yd),(156,Mx)]
def AFw:List (Nat×Aq):=(lX AOh).reverseAux mZ
theorem AOl:MM AFw:=Mt.s AFG (by kernel_rfl) (by kernel_rfl)
def Af5:List (Nat×GF):=[(158,Yf),(237,Ye),(159,VV),(78,Sg),(24,Kz),(20,Si),(59,VD),(116,ky),(193,kz),(117,lA),(270,lB),(348,lC),(271,lD),(441,lE),(408,lF),(349,lG)]
def Ab2:List (Nat×Aq):=(lX Af5).reverseAux AFw
theorem AgC:MM Ab2:=Mt.s AOl (by kernel_rfl) (by kernel_rfl)
def Af6:List (Nat×GF):=[(272,lH),(194,lI),(118,kv),(48,cZ),(189,xF),(104,xG),(190,xH),(105,kx),(40,Xj),(10,Fl)]
def AgT:List (Nat×Aq):=(lX Af6).reverseAux Ab2
theorem AgD:MM AgT:=Mt.s AgC (by kernel_rfl) (by kernel_rfl)
theorem Zh:M 10 Fl:=Mt.at AgD (by kernel_rfl)
end Go.Proofs.YtdmpkjjlnjchkaaGreat.fnExactSound
