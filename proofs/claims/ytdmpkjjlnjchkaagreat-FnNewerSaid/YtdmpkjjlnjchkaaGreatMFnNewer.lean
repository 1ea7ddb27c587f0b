/-
  The functions that the law FnNewer reaches are the texts that are shown.
-/
import Derived.Test.YtdmpkjjlnjchkaaGreatRows
import Derived.Test.YtdmpkjjlnjchkaaGreatLF
import Derived.Test.YtdmpkjjlnjchkaaGreatPU4
import Derived.JoinedCond
noncomputable section
set_option linter.unusedVariables false
set_option linter.unusedSimpArgs false
set_option linter.unusedSectionVars false
namespace Go.Proofs.YtdmpkjjlnjchkaaGreat.fnNewer
open Go Lv Lv.P
set_option maxRecDepth 100000
abbrev M(n:Nat)(g:GF):Prop:=Mt (PB Tryz.prog) Tryz.prog n g.x
theorem MB {A P n fn f} {l:List (Nat×Aq)} (h1:P.funcs[n]?=some fn) (h4:∀p∈l,Mt A P p.1 p.2) (h2:oM P fn f=true:=by kernel_rfl) (h3:WR fn f=l:=by kernel_rfl):Mt A P n f:=Mt.by h1 h2 h3 h4
def Aw:Go.Shelf.Ren:=⟨fun|29=>427|30=>428|n=>n,fun|0=>0|3=>3|4=>4|9=>268|24=>220|n=>n,fun n=>n⟩
theorem Be:H5 Tryz.prog Aw 385 2 where
 mixed:=by kernel_rfl
 f22:=⟨"slices.Insert[[]loop.example/g00494/impl.Pin,loop.example/g00494/impl.Pin]",by decide,Tryz.func385.trans (congrArg some (by kernel_rfl))⟩
 ov:=fun args w=>Go.run_callFunc_extern Tryz.func427 (by kernel_rfl) (by kernel_rfl) (by kernel_rfl) (by kernel_rfl) args w
 t3:=Tryz.underlying3
 a3:=Tryz.isAgg3
 z3:=Tryz.sizeOf3
 t4:=Tryz.underlying4
 a4:=Tryz.isAgg4
 t24:=Tryz.underlying220
 a24:=Tryz.isAgg220
 z9:=Tryz.sizeOf268
 el:=by kernel_rfl
 gr:=by kernel_rfl
 two:=by decide
theorem BGG:M 385 AEA:=.Dw (.inl (.inl ⟨Aw,2,Be,rfl,rfl⟩))
def rb0:List (Nat×Aq):=[(385,AEA.x)]
abbrev MM(r:List (Nat×Aq)):Prop:=∀p∈r,Mt (PB Tryz.prog) Tryz.prog p.1 p.2
theorem mb0:MM rb0:=(.and BGG .none)
def lb1:List (Nat×GF):=[(12,VF),(61,SN),(204,SO),(133,SP),(131,SQ),(65,ACO),(15,ATC),(257,SH),(217,ATH),(423,QN),(374,QO),(377,QP),(314,QQ),(209,ATD),(142,ATE),(210,ATF)]
def rb1:List (Nat×Aq):=(lX lb1).reverseAux rb0
theorem mb1:MM rb1:=Mt.s mb0 (by kernel_rfl) (by kernel_rfl)
def lb2:List (Nat×GF):=[(143,ATG),(280,ATI),(281,ATJ),(218,ATK),(278,xR),(282,ba),(219,ALZ),(148,ACP),(256,xX),(409,ATL),(350,ATM),(276,ATN),(325,ATO),(277,ATP),(211,ATQ),(149,ATR)]
def rb2:List (Nat×Aq):=(lX lb2).reverseAux rb1
theorem mb2:MM rb2:=Mt.s mb1 (by kernel_rfl) (by kernel_rfl)
def lb3:List (Nat×GF):=[(279,ATS),(213,ATT),(214,ATU),(212,ATV),(215,ATA),(216,ATB),(144,xE),(145,bZ),(66,ALX),(376,OQ),(313,FO),(179,IC),(178,SF),(181,SG),(180,OR),(239,QM)]
def rb3:List (Nat×Aq):=(lX lb3).reverseAux rb2
theorem mb3:MM rb3:=Mt.s mb2 (by kernel_rfl) (by kernel_rfl)
def lb4:List (Nat×GF):=[(242,SI),(171,SR),(173,AZB),(132,Xp),(243,xM),(326,Ku),(258,SK),(177,VC),(94,OT),(146,ALY),(67,ACN),(147,Fm),(68,O1),(16,T7),(96,SL),(97,VD)]
def rb4:List (Nat×Aq):=(lX lb4).reverseAux rb3
theorem mb4:MM rb4:=Mt.s mb3 (by kernel_rfl) (by kernel_rfl)
def lb5:List (Nat×GF):=[(34,ky),(95,kz),(31,lA),(388,Xl),(333,cj),(334,QS),(332,OW),(398,VH),(335,ID),(262,xJ),(336,OU),(337,SU),(399,SV),(338,ANl),(339,Xn),(263,ANm)]
def rb5:List (Nat×Aq):=(lX lb5).reverseAux rb4
theorem mb5:MM rb5:=Mt.s mb4 (by kernel_rfl) (by kernel_rfl)
def lb6:List (Nat×GF):=[(400,AEC),(345,VI),(340,VJ),(341,dC),(401,VK),(402,VL),(342,dE),(264,OX),(403,Xt),(343,SX),(265,ANs),(344,dF),(266,Xu),(404,xO),(346,dG),(267,lL)]
def rb6:List (Nat×Aq):=(lX lb6).reverseAux rb5
theorem mb6:MM rb6:=Mt.s mb5 (by kernel_rfl) (by kernel_rfl)
def lb7:List (Nat×GF):=[(268,lM),(405,xP),(464,CN),(438,lN),(406,KK),(465,ANt),(466,QV),(439,AZH),(440,OY),(375,OV),(407,Mv),(407,AZI),(347,Mu),(269,AZG),(191,xN),(112,Lm)]
def rb7:List (Nat×Aq):=(lX lb7).reverseAux rb6
theorem mb7:MM rb7:=Mt.s mb6 (by kernel_rfl) (by kernel_rfl)
def lb8:List (Nat×GF):=[(126,ANp),(100,ANq),(36,ANr),(199,Xj),(160,VE),(240,xF),(163,xG),(310,ANi),(309,QR),(308,ANj),(307,AD5),(311,ANk),(312,Lk),(73,SM),(238,AY9),(161,AZA)]
def rb8:List (Nat×Aq):=(lX lb8).reverseAux rb7
theorem mb8:MM rb8:=Mt.s mb7 (by kernel_rfl) (by kernel_rfl)
def lb9:List (Nat×GF):=[(80,AZC),(27,cg),(162,AY7),(81,AY8),(379,Xk),(378,dB),(380,Xr),(315,Xs),(244,Jj),(165,SY),(245,AD6),(166,AD7),(381,Sa),(382,Xx),(316,VM),(246,Xy)]
def rb9:List (Nat×Aq):=(lX lb9).reverseAux rb8
theorem mb9:MM rb9:=Mt.s mb8 (by kernel_rfl) (by kernel_rfl)
def mD:List (Nat×GF):=[(167,Xz),(85,YA),(25,QW),(86,AZD),(138,Rz),(87,E3),(139,OJ),(241,xH),(168,kx),(247,AD8),(205,SJ),(134,OD),(248,AD9),(223,R0),(220,OE),(415,QE)]
def Nw:List (Nat×Aq):=(lX mD).reverseAux rb9
theorem Zc:MM Nw:=Mt.s mb9 (by kernel_rfl) (by kernel_rfl)
def ZU:List (Nat×GF):=[(356,OG),(292,OH),(424,OI),(475,QF),(458,Mq)]
def Nx:List (Nat×Aq):=(lX ZU).reverseAux Nw
theorem TE:MM Nx:=Mt.s Zc (by kernel_rfl) (by kernel_rfl)
theorem BDC:M 458 Mq:=Mt.at TE (by kernel_rfl)
theorem A8q:(k:Nat)->Mt (PB Tryz.prog) Tryz.prog 425 (A8s k).x|0=>.Dw (.inl (.inr ⟨rfl,_,Tryz.func425,by kernel_rfl,by kernel_rfl⟩))|k+1=>MB (f:=(BC7 (A8s k)).x) Tryz.func425 (l:=[(458,Mq.x),(425,(A8s k).x),(425,(A8s k).x)]) (.and BDC (.and (A8q k) (.and (A8q k) .none)))
theorem BDD:M 425 Mr:=A8q 7
def Ny:List (Nat×Aq):=(425,Mr.x)::Nx
theorem UI:MM Ny:=Mt.and BDD TE
def yJ:List (Nat×GF):=[(383,R5),(317,Ml),(426,P9),(384,QA),(318,QB),(249,KH),(250,QH),(251,ON),(429,Mm),(477,KJ),(460,Ms)]
def Nz:List (Nat×Aq):=(lX yJ).reverseAux Ny
theorem Vq:MM Nz:=Mt.s UI (by kernel_rfl) (by kernel_rfl)
theorem BDE:M 460 Ms:=Mt.at Vq (by kernel_rfl)
theorem A8r:(k:Nat)->Mt (PB Tryz.prog) Tryz.prog 430 (A8t k).x|0=>.Dw (.inl (.inr ⟨rfl,_,Tryz.func430,by kernel_rfl,by kernel_rfl⟩))|k+1=>MB (f:=(BC8 (A8t k)).x) Tryz.func430 (l:=[(460,Ms.x),(430,(A8t k).x),(430,(A8t k).x)]) (.and BDE (.and (A8r k) (.and (A8r k) .none)))
theorem BDF:M 430 OM:=A8r 7
def N0:List (Nat×Aq):=(430,OM.x)::Nz
theorem UJ:MM N0:=Mt.and BDF Vq
def yK:List (Nat×GF):=[(386,Jh),(320,SB),(321,Mo),(253,QG),(207,Ji),(287,lC),(363,QD),(306,OF),(319,AEB),(252,xI),(221,P7),(275,P8),(357,Li),(419,QC),(418,FZ),(361,R3)]
def N1:List (Nat×Aq):=(lX yK).reverseAux N0
theorem Zd:MM N1:=Mt.s UJ (by kernel_rfl) (by kernel_rfl)
def ZV:List (Nat×GF):=[(305,R4),(235,Mp),(236,KI),(450,OC),(411,Ry),(410,Mn),(351,EC),(284,Kt),(283,GS),(222,SC),(285,QI),(224,QJ),(151,OO),(208,R6),(137,SA),(157,lK)]
def N2:List (Nat×Aq):=(lX ZV).reverseAux N1
theorem Ze:MM N2:=Mt.s Zd (by kernel_rfl) (by kernel_rfl)
def ZW:List (Nat×GF):=[(169,VG),(137,R7),(140,R8),(141,R9),(64,OK),(137,OL),(64,FN),(88,ANn),(28,AED),(26,AEE),(5,Ix)]
def RF:List (Nat×Aq):=(lX ZW).reverseAux N2
theorem Zf:MM RF:=Mt.s Ze (by kernel_rfl) (by kernel_rfl)
theorem oK:M 5 Ix:=Mt.at Zf (by kernel_rfl)
end Go.Proofs.YtdmpkjjlnjchkaaGreat.fnNewer
