/-
  The functions that the law FnExactCall reaches are the texts that are shown.
-/
import Derived.Test.YtdmpkjjlnjchkaaGreatRows
import Derived.Test.YtdmpkjjlnjchkaaGreatLF
import Derived.Test.YtdmpkjjlnjchkaaGreatPO3
import Derived.JoinedCond
noncomputable section
set_option linter.unusedVariables false
set_option linter.unusedSimpArgs false
set_option linter.unusedSectionVars false
namespace Go.Proofs.YtdmpkjjlnjchkaaGreat.fnExactCall
open Go Lv Lv.P
set_option maxRecDepth 100000
abbrev M(n:Nat)(g:GF):Prop:=Mt (PB Tryz.prog) Tryz.prog n g.x
theorem MB {A P n fn f} {l:List (Nat×Aq)} (h1:P.funcs[n]?=some fn) (h4:∀p∈l,Mt A P p.1 p.2) (h2:oM P fn f=true:=by kernel_rfl) (h3:WR fn f=l:=by kernel_rfl):Mt A P n f:=Mt.by h1 h2 h3 h4
def A1:Go.Shelf.Ren:=⟨fun|29=>413|30=>414|n=>n,fun|0=>0|3=>3|4=>4|9=>116|24=>28|n=>n,fun n=>n⟩
theorem Bk:H5 Tryz.prog A1 355 10 where
 mixed:=by kernel_rfl
 f22:=⟨"slices.Insert[[]loop.example/g00494/impl.Party,loop.example/g00494/impl.Party]",by decide,Tryz.func355.trans (congrArg some (by kernel_rfl))⟩
 ov:=fun args w=>Go.run_callFunc_extern Tryz.func413 (by kernel_rfl) (by kernel_rfl) (by kernel_rfl) (by kernel_rfl) args w
 t3:=Tryz.underlying3
 a3:=Tryz.isAgg3
 z3:=Tryz.sizeOf3
 t4:=Tryz.underlying4
 a4:=Tryz.isAgg4
 t24:=Tryz.underlying28
 a24:=Tryz.isAgg28
 z9:=Tryz.sizeOf116
 el:=by kernel_rfl
 gr:=by kernel_rfl
 two:=by decide
theorem A7y:M 355 OY:=.Dw (.inl (.inl ⟨A1,10,Bk,rfl,rfl⟩))
def A0:Go.Shelf.Ren:=⟨fun|29=>416|30=>417|n=>n,fun|0=>0|3=>3|4=>4|9=>227|24=>120|n=>n,fun n=>n⟩
theorem Bj:H5 Tryz.prog A0 358 4 where
 mixed:=by kernel_rfl
 f22:=⟨"slices.Insert[[]loop.example/g00494/impl.Entry,loop.example/g00494/impl.Entry]",by decide,Tryz.func358.trans (congrArg some (by kernel_rfl))⟩
 ov:=fun args w=>Go.run_callFunc_extern Tryz.func416 (by kernel_rfl) (by kernel_rfl) (by kernel_rfl) (by kernel_rfl) args w
 t3:=Tryz.underlying3
 a3:=Tryz.isAgg3
 z3:=Tryz.sizeOf3
 t4:=Tryz.underlying4
 a4:=Tryz.isAgg4
 t24:=Tryz.underlying120
 a24:=Tryz.isAgg120
 z9:=Tryz.sizeOf227
 el:=by kernel_rfl
 gr:=by kernel_rfl
 two:=by decide
theorem A7z:M 358 Mv:=.Dw (.inl (.inl ⟨A0,4,Bj,rfl,rfl⟩))
def Ay:Go.Shelf.Ren:=⟨fun n=>n,fun|0=>0|3=>3|4=>4|9=>227|24=>120|n=>n,fun n=>n⟩
theorem Bh:JD Tryz.prog Ay 362 4 where
 mixed:=by kernel_rfl
 f24:=⟨"slices.Delete[[]loop.example/g00494/impl.Entry,loop.example/g00494/impl.Entry]",by decide,Tryz.func362.trans (congrArg some (by kernel_rfl))⟩
 t0:=Tryz.underlying0
 a0:=Tryz.isAgg0
 z0:=Tryz.sizeOf0
 t3:=Tryz.underlying3
 a3:=Tryz.isAgg3
 z3:=Tryz.sizeOf3
 t4:=Tryz.underlying4
 a4:=Tryz.isAgg4
 z4:=Tryz.sizeOf4
 t24:=Tryz.underlying120
 a24:=Tryz.isAgg120
 z24:=Tryz.sizeOf120
 z9:=Tryz.sizeOf227
 el:=by kernel_rfl
 gr:=by kernel_rfl
 zo:=by kernel_rfl
theorem A70:M 362 AZI:=.Dw (.inr ⟨Ay,4,Bh,rfl,rfl⟩)
def BJ:Go.Shelf.Ren:=⟨fun n=>n,fun|0=>0|3=>3|4=>4|9=>268|24=>220|n=>n,fun n=>n⟩
theorem Bt:JD Tryz.prog BJ 365 2 where
 mixed:=by kernel_rfl
 f24:=⟨"slices.Delete[[]loop.example/g00494/impl.Pin,loop.example/g00494/impl.Pin]",by decide,Tryz.func365.trans (congrArg some (by kernel_rfl))⟩
 t0:=Tryz.underlying0
 a0:=Tryz.isAgg0
 z0:=Tryz.sizeOf0
 t3:=Tryz.underlying3
 a3:=Tryz.isAgg3
 z3:=Tryz.sizeOf3
 t4:=Tryz.underlying4
 a4:=Tryz.isAgg4
 z4:=Tryz.sizeOf4
 t24:=Tryz.underlying220
 a24:=Tryz.isAgg220
 z24:=Tryz.sizeOf220
 z9:=Tryz.sizeOf268
 el:=by kernel_rfl
 gr:=by kernel_rfl
 zo:=by kernel_rfl
theorem A7w:M 365 Mu:=.Dw (.inr ⟨BJ,2,Bt,rfl,rfl⟩)
def Az:Go.Shelf.Ren:=⟨fun n=>n,fun|0=>0|3=>3|4=>4|9=>116|24=>28|n=>n,fun n=>n⟩
theorem Bi:JD Tryz.prog Az 368 10 where
 mixed:=by kernel_rfl
 f24:=⟨"slices.Delete[[]loop.example/g00494/impl.Party,loop.example/g00494/impl.Party]",by decide,Tryz.func368.trans (congrArg some (by kernel_rfl))⟩
 t0:=Tryz.underlying0
 a0:=Tryz.isAgg0
 z0:=Tryz.sizeOf0
 t3:=Tryz.underlying3
 a3:=Tryz.isAgg3
 z3:=Tryz.sizeOf3
 t4:=Tryz.underlying4
 a4:=Tryz.isAgg4
 z4:=Tryz.sizeOf4
 t24:=Tryz.underlying28
 a24:=Tryz.isAgg28
 z24:=Tryz.sizeOf28
 z9:=Tryz.sizeOf116
 el:=by kernel_rfl
 gr:=by kernel_rfl
 zo:=by kernel_rfl
theorem A7x:M 368 AZG:=.Dw (.inr ⟨Az,10,Bi,rfl,rfl⟩)
def Aw:Go.Shelf.Ren:=⟨fun|29=>427|30=>428|n=>n,fun|0=>0|3=>3|4=>4|9=>268|24=>220|n=>n,fun n=>n⟩
theorem Be:H5 Tryz.prog Aw 385 2 where
 mixed:=by kernel_rfl
 f22:=⟨"slices.Insert[[]loop.example/g00494/impl.Pin,loop.example/g00494/impl.Pin]",by decide,Tryz.func385.trans (congrArg some (by kernel_rfl))⟩
 ov:=fun args w=>Go.run_callFunc_extern Tryz.func427 (by kernel_rfl) (by kernel_rfl) (by kernel_rfl) (by kernel_rfl) args w
 t3:=Tryz.underlying3
 a3:=Tryz.isAgg3
 z3:=Tryz.sizeOf3
 t4:=Tryz.underlying4
 a4:=Tryz.isAgg4
 t24:=Tryz.underlying220
 a24:=Tryz.isAgg220
 z9:=Tryz.sizeOf268
 el:=by kernel_rfl
 gr:=by kernel_rfl
 two:=by decide
theorem A7v:M 385 AZF:=.Dw (.inl (.inl ⟨Aw,2,Be,rfl,rfl⟩))
def rb0:List (Nat×Aq):=[(385,AZF.x),(368,AZG.x),(365,Mu.x),(362,AZI.x),(358,Mv.x),(355,OY.x)]
abbrev MM(r:List (Nat×Aq)):Prop:=∀p∈r,Mt (PB Tryz.prog) Tryz.prog p.1 p.2
theorem mb0:MM rb0:=(.and A7v (.and A7x (.and A7w (.and A70 (.and A7z (.and A7y .none))))))
def lb1:List (Nat×GF):=[(185,ACO),(182,ATC),(183,ATD),(327,ATE),(436,ATF),(395,ATG),(328,ATH),(259,ATI),(184,ATJ),(98,ATK),(79,xR),(21,ba),(99,ALZ),(35,ACP),(56,xX),(186,ATL)]
def rb1:List (Nat×Aq):=(lX lb1).reverseAux rb0
theorem mb1:MM rb1:=Mt.s mb0 (by kernel_rfl) (by kernel_rfl)
def lb2:List (Nat×GF):=[(260,ATM),(187,ATN),(329,ATO),(396,ATP),(330,ATQ),(463,ATR),(437,ATS),(397,ATT),(331,ATU),(261,ATV),(188,ATA),(101,ATB),(83,xE),(23,bZ),(38,ALX),(102,ALY)]
def rb2:List (Nat×Aq):=(lX lb2).reverseAux rb1
theorem mb2:MM rb2:=Mt.s mb1 (by kernel_rfl) (by kernel_rfl)
def lb3:List (Nat×GF):=[(37,ACN),(257,Xo),(325,Mo),(326,AD5),(258,ANk),(177,Lk),(94,SM),(65,Fm),(15,O1),(209,T7),(142,Rz),(210,OD),(143,R0),(217,OE),(280,P7),(281,P8)]
def rb3:List (Nat×Aq):=(lX lb3).reverseAux rb2
theorem mb3:MM rb3:=Mt.s mb2 (by kernel_rfl) (by kernel_rfl)
def lb4:List (Nat×GF):=[(218,P9),(278,QA),(282,QB),(219,Li),(148,QC),(256,FZ),(409,R3),(350,R4),(276,QD),(277,OF),(211,Mp),(149,QE),(279,OG),(213,OH),(214,OI),(212,QF)]
def rb4:List (Nat×Aq):=(lX lb4).reverseAux rb3
theorem mb4:MM rb4:=Mt.s mb3 (by kernel_rfl) (by kernel_rfl)
def lb5:List (Nat×GF):=[(215,Mq),(216,Mr),(144,R5),(145,Ml),(66,KH),(146,KI),(67,OC),(147,Ry),(68,Mm),(16,Mn),(179,AY7),(178,AY8),(96,AY9),(181,Xk),(180,VF),(97,VE)]
def rb5:List (Nat×Aq):=(lX lb5).reverseAux rb4
theorem mb5:MM rb5:=Mt.s mb4 (by kernel_rfl) (by kernel_rfl)
def lb6:List (Nat×GF):=[(34,AZA),(95,AZC),(31,cg),(388,ANo),(333,Xq),(334,JA),(332,ch),(398,SW),(335,QU),(262,xL),(336,AEK),(337,xM),(399,cj),(338,QS),(339,AZE),(263,OW)]
def rb6:List (Nat×Aq):=(lX lb6).reverseAux rb5
theorem mb6:MM rb6:=Mt.s mb5 (by kernel_rfl) (by kernel_rfl)
def lb7:List (Nat×GF):=[(400,VH),(345,ID),(340,xJ),(341,SU),(401,SV),(402,ANl),(342,ANm),(264,AEC),(403,VI),(343,VJ),(265,dC),(344,VK),(266,VL),(404,dE),(346,OX),(267,Xt)]
def rb7:List (Nat×Aq):=(lX lb7).reverseAux rb6
theorem mb7:MM rb7:=Mt.s mb6 (by kernel_rfl) (by kernel_rfl)
def lb8:List (Nat×GF):=[(268,SX),(405,ANs),(464,dF),(438,Xu),(406,xO),(465,dG),(466,lL),(439,lM),(440,xP),(375,AEL),(407,CN),(407,lN),(347,KK),(269,ANt),(191,QV),(112,AZH)]
def rb8:List (Nat×Aq):=(lX lb8).reverseAux rb7
theorem mb8:MM rb8:=Mt.s mb7 (by kernel_rfl) (by kernel_rfl)
def lb9:List (Nat×GF):=[(126,xN),(100,Lm),(36,VR),(205,AZB),(135,Xp),(286,AZD),(287,ANn),(226,AED),(153,AEE),(90,AEF),(138,EC),(134,Kt),(223,KJ),(220,Ms),(221,OM),(275,Jh)]
def rb9:List (Nat×Aq):=(lX lb9).reverseAux rb8
theorem mb9:MM rb9:=Mt.s mb8 (by kernel_rfl) (by kernel_rfl)
def mD:List (Nat×GF):=[(426,SB),(384,QG),(318,GS),(357,QH),(419,ON),(418,SC),(361,QI),(305,QJ),(363,OO),(321,E3),(306,Lj),(235,QK),(415,SD),(356,SE),(292,OP),(424,QL)]
def Nw:List (Nat×Aq):=(lX mD).reverseAux rb9
theorem Zc:MM Nw:=Mt.s mb9 (by kernel_rfl) (by kernel_rfl)
def ZU:List (Nat×GF):=[(475,OQ),(458,FO)]
def Nx:List (Nat×Aq):=(lX ZU).reverseAux Nw
theorem TE:MM Nx:=Mt.s Zc (by kernel_rfl) (by kernel_rfl)
theorem Jp:M 458 FO:=Mt.at TE (by kernel_rfl)
theorem Da:(k:Nat)->Mt (PB Tryz.prog) Tryz.prog 425 (E6 k).x|0=>.Dw (.inl (.inr ⟨rfl,_,Tryz.func425,by kernel_rfl,by kernel_rfl⟩))|k+1=>MB (f:=(Rx (E6 k)).x) Tryz.func425 (l:=[(458,FO.x),(425,(E6 k).x),(425,(E6 k).x)]) (.and Jp (.and (Da k) (.and (Da k) .none)))
theorem Jq:M 425 IC:=Da 7
def Ny:List (Nat×Aq):=(425,IC.x)::Nx
theorem UI:MM Ny:=Mt.and Jq TE
def yJ:List (Nat×GF):=[(383,SF),(317,SG),(249,OR),(236,QM),(450,R6),(411,R7),(429,OJ),(410,R8),(351,R9),(284,OK),(477,OL),(460,FN)]
def Nz:List (Nat×Aq):=(lX yJ).reverseAux Ny
theorem Vq:MM Nz:=Mt.s UI (by kernel_rfl) (by kernel_rfl)
theorem Jn:M 460 FN:=Mt.at Vq (by kernel_rfl)
theorem DZ:(k:Nat)->Mt (PB Tryz.prog) Tryz.prog 430 (E5 k).x|0=>.Dw (.inl (.inr ⟨rfl,_,Tryz.func430,by kernel_rfl,by kernel_rfl⟩))|k+1=>MB (f:=(Rv (E5 k)).x) Tryz.func430 (l:=[(460,FN.x),(430,(E5 k).x),(430,(E5 k).x)]) (.and Jn (.and (DZ k) (.and (DZ k) .none)))
theorem Jo:M 430 IB:=DZ 7
def N0:List (Nat×Aq):=(430,IB.x)::Nz
theorem UJ:MM N0:=Mt.and Jo Vq
def yK:List (Nat×GF):=[(386,SA),(320,SH),(253,QN),(283,QO),(250,QP),(251,QQ),(222,SI),(285,SJ),(224,OS),(151,Ji),(87,Ku),(113,SK),(174,VC),(91,OT),(75,SL),(139,SN)]
def N1:List (Nat×Aq):=(lX yK).reverseAux N0
theorem Zd:MM N1:=Mt.s UJ (by kernel_rfl) (by kernel_rfl)
def ZV:List (Nat×GF):=[(140,SO),(176,AEG),(141,SP),(175,AEH),(93,AEI),(92,AEJ),(30,xK),(63,lJ),(412,ANp),(353,ANq),(352,ANr),(288,dB),(289,Xr),(290,Xs),(227,Jj),(354,SY)]
def N2:List (Nat×Aq):=(lX ZV).reverseAux N1
theorem Ze:MM N2:=Mt.s Zd (by kernel_rfl) (by kernel_rfl)
def ZW:List (Nat×GF):=[(353,Xv),(291,SZ),(293,Xw),(360,Sa),(359,Xx),(294,VM),(295,Xy),(228,Xz),(296,YA),(364,QW),(297,YB),(366,VN),(359,YC),(298,QX),(367,QY),(359,YD)]
def RF:List (Nat×Aq):=(lX ZW).reverseAux N2
theorem Zf:MM RF:=Mt.s Ze (by kernel_rfl) (by kernel_rfl)
def AE8:List (Nat×GF):=[(299,YE),(300,QZ),(229,Sb),(369,AZP),(359,ANx),(301,AZQ),(230,ANy),(370,AZR),(359,ANu),(302,AZJ),(231,ANv),(371,AZK),(303,ANw),(232,AZL),(233,AZM),(453,AZN)]
def jQ:List (Nat×Aq):=(lX AE8).reverseAux RF
theorem AFD:MM jQ:=Mt.s Zf (by kernel_rfl) (by kernel_rfl)
def AE9:List (Nat×GF):=[(454,AZO),(420,AEM),(372,AEN),(455,AEO),(474,lO),(418,ANz),(456,KL),(421,VP),(457,YQ),(359,YR),(422,YS),(319,QT),(373,Kv),(304,VQ),(234,Mw),(154,YT)]
def jR:List (Nat×Aq):=(lX AE9).reverseAux jQ
theorem AFE:MM jR:=Mt.s AFD (by kernel_rfl) (by kernel_rfl)
def AFA:List (Nat×GF):=[(77,YU),(103,YV),(39,VS),(59,VD),(116,ky),(193,kz),(117,lA),(270,lB),(348,lC),(271,lD),(441,lE),(408,lF),(349,lG),(272,lH),(194,lI),(118,kv)]
def jS:List (Nat×Aq):=(lX AFA).reverseAux jR
theorem AFF:MM jS:=Mt.s AFE (by kernel_rfl) (by kernel_rfl)
def AFB:List (Nat×GF):=[(48,cZ),(189,xF),(104,xG),(190,xH),(105,kx),(40,Xj),(41,ANj),(107,SQ),(119,SR),(120,SS),(195,Xl),(273,Ll),(196,OU),(121,OV),(49,Xm),(106,AD6)]
def mZ:List (Nat×Aq):=(lX AFB).reverseAux jS
theorem AFG:MM mZ:=Mt.s AFF (by kernel_rfl) (by kernel_rfl)
def AOh:List (Nat×GF):=[(42,AD7),(43,Sd),(109,Xn),(122,AD8),(123,AD9),(197,AEA),(274,AEB),(198,xI),(124,lK),(50,VG),(108,ANi),(44,QR),(45,YW),(7,GC)]
def AFw:List (Nat×Aq):=(lX AOh).reverseAux mZ
theorem AOl:MM AFw:=Mt.s AFG (by kernel_rfl) (by kernel_rfl)
theorem bI:M 7 GC:=Mt.at AOl (by kernel_rfl)
end Go.Proofs.YtdmpkjjlnjchkaaGreat.fnExactCall
