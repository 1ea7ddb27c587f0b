/-
  The functions that the law FnCall reaches are the texts that are shown.
-/
import Derived.Test.YtnjoipcemhflkaaGreatRows
import Derived.Test.YtnjoipcemhflkaaGreatLFc
import Derived.Test.YtnjoipcemhflkaaGreatPTc
import Derived.JoinedCond
noncomputable section
set_option linter.unusedVariables false
set_option linter.unusedSimpArgs false
set_option linter.unusedSectionVars false
namespace Go.Proofs.YtnjoipcemhflkaaGreat.fnCall
open Go Lv Lv.P
set_option maxRecDepth 100000
abbrev M(n:Nat)(g:GF):Prop:=Mt (PB Tryz.prog) Tryz.prog n g.x
theorem MB {A P n fn f} {l:List (Nat×B3)} (h1:P.funcs[n]?=some fn) (h4:∀p∈l,Mt A P p.1 p.2) (h2:ARS P fn f=true:=by kernel_rfl) (h3:ADe fn f=l:=by kernel_rfl):Mt A P n f:=Mt.by h1 h2 h3 h4
def Ev:Go.Shelf.Ren:=⟨fun|29=>344|30=>345|n=>n,fun|0=>0|3=>3|4=>4|9=>95|24=>28|n=>n,fun n=>n⟩
theorem IS:Y6 Tryz.prog Ev 295 10 where
 mixed:=by kernel_rfl
 f22:=⟨"slices.Insert[[]loop.example/g00494/impl.Party,loop.example/g00494/impl.Party]",by decide,Tryz.func295.trans (congrArg some (by kernel_rfl))⟩
 ov:=fun args w=>Go.run_callFunc_extern Tryz.func344 (by kernel_rfl) (by kernel_rfl) (by kernel_rfl) (by kernel_rfl) args w
 t3:=Tryz.underlying3
 a3:=Tryz.isAgg3
 z3:=Tryz.sizeOf3
 t4:=Tryz.underlying4
 a4:=Tryz.isAgg4
 t24:=Tryz.underlying28
 a24:=Tryz.isAgg28
 z9:=Tryz.sizeOf95
 el:=by kernel_rfl
 gr:=by kernel_rfl
 two:=by decide
theorem ATN:M 295 ABk:=.Mf (.inl (.inl ⟨Ev,10,IS,rfl,rfl⟩))
def Eu:Go.Shelf.Ren:=⟨fun|29=>347|30=>348|n=>n,fun|0=>0|3=>3|4=>4|9=>183|24=>99|n=>n,fun n=>n⟩
theorem IQ:Y6 Tryz.prog Eu 298 4 where
 mixed:=by kernel_rfl
 f22:=⟨"slices.Insert[[]loop.example/g00494/impl.Entry,loop.example/g00494/impl.Entry]",by decide,Tryz.func298.trans (congrArg some (by kernel_rfl))⟩
 ov:=fun args w=>Go.run_callFunc_extern Tryz.func347 (by kernel_rfl) (by kernel_rfl) (by kernel_rfl) (by kernel_rfl) args w
 t3:=Tryz.underlying3
 a3:=Tryz.isAgg3
 z3:=Tryz.sizeOf3
 t4:=Tryz.underlying4
 a4:=Tryz.isAgg4
 t24:=Tryz.underlying99
 a24:=Tryz.isAgg99
 z9:=Tryz.sizeOf183
 el:=by kernel_rfl
 gr:=by kernel_rfl
 two:=by decide
theorem ATO:M 298 ABl:=.Mf (.inl (.inl ⟨Eu,4,IQ,rfl,rfl⟩))
def Es:Go.Shelf.Ren:=⟨fun n=>n,fun|0=>0|3=>3|4=>4|9=>183|24=>99|n=>n,fun n=>n⟩
theorem IN:kO Tryz.prog Es 302 4 where
 mixed:=by kernel_rfl
 f24:=⟨"slices.Delete[[]loop.example/g00494/impl.Entry,loop.example/g00494/impl.Entry]",by decide,Tryz.func302.trans (congrArg some (by kernel_rfl))⟩
 t0:=Tryz.underlying0
 a0:=Tryz.isAgg0
 z0:=Tryz.sizeOf0
 t3:=Tryz.underlying3
 a3:=Tryz.isAgg3
 z3:=Tryz.sizeOf3
 t4:=Tryz.underlying4
 a4:=Tryz.isAgg4
 z4:=Tryz.sizeOf4
 t24:=Tryz.underlying99
 a24:=Tryz.isAgg99
 z24:=Tryz.sizeOf99
 z9:=Tryz.sizeOf183
 el:=by kernel_rfl
 gr:=by kernel_rfl
 zo:=by kernel_rfl
theorem ATP:M 302 ABm:=.Mf (.inr ⟨Es,4,IN,rfl,rfl⟩)
def Fc:Go.Shelf.Ren:=⟨fun n=>n,fun|0=>0|3=>3|4=>4|9=>198|24=>203|n=>n,fun n=>n⟩
theorem JS:kO Tryz.prog Fc 305 2 where
 mixed:=by kernel_rfl
 f24:=⟨"slices.Delete[[]loop.example/g00494/impl.Pin,loop.example/g00494/impl.Pin]",by decide,Tryz.func305.trans (congrArg some (by kernel_rfl))⟩
 t0:=Tryz.underlying0
 a0:=Tryz.isAgg0
 z0:=Tryz.sizeOf0
 t3:=Tryz.underlying3
 a3:=Tryz.isAgg3
 z3:=Tryz.sizeOf3
 t4:=Tryz.underlying4
 a4:=Tryz.isAgg4
 z4:=Tryz.sizeOf4
 t24:=Tryz.underlying203
 a24:=Tryz.isAgg203
 z24:=Tryz.sizeOf203
 z9:=Tryz.sizeOf198
 el:=by kernel_rfl
 gr:=by kernel_rfl
 zo:=by kernel_rfl
theorem ATQ:M 305 ABn:=.Mf (.inr ⟨Fc,2,JS,rfl,rfl⟩)
def Et:Go.Shelf.Ren:=⟨fun n=>n,fun|0=>0|3=>3|4=>4|9=>95|24=>28|n=>n,fun n=>n⟩
theorem IP:kO Tryz.prog Et 308 10 where
 mixed:=by kernel_rfl
 f24:=⟨"slices.Delete[[]loop.example/g00494/impl.Party,loop.example/g00494/impl.Party]",by decide,Tryz.func308.trans (congrArg some (by kernel_rfl))⟩
 t0:=Tryz.underlying0
 a0:=Tryz.isAgg0
 z0:=Tryz.sizeOf0
 t3:=Tryz.underlying3
 a3:=Tryz.isAgg3
 z3:=Tryz.sizeOf3
 t4:=Tryz.underlying4
 a4:=Tryz.isAgg4
 z4:=Tryz.sizeOf4
 t24:=Tryz.underlying28
 a24:=Tryz.isAgg28
 z24:=Tryz.sizeOf28
 z9:=Tryz.sizeOf95
 el:=by kernel_rfl
 gr:=by kernel_rfl
 zo:=by kernel_rfl
theorem ATR:M 308 ABo:=.Mf (.inr ⟨Et,10,IP,rfl,rfl⟩)
def Fe:Go.Shelf.Ren:=⟨fun|29=>390|30=>391|n=>n,fun|0=>0|3=>3|4=>4|9=>198|24=>203|n=>n,fun n=>n⟩
theorem JV:Y6 Tryz.prog Fe 366 2 where
 mixed:=by kernel_rfl
 f22:=⟨"slices.Insert[[]loop.example/g00494/impl.Pin,loop.example/g00494/impl.Pin]",by decide,Tryz.func366.trans (congrArg some (by kernel_rfl))⟩
 ov:=fun args w=>Go.run_callFunc_extern Tryz.func390 (by kernel_rfl) (by kernel_rfl) (by kernel_rfl) (by kernel_rfl) args w
 t3:=Tryz.underlying3
 a3:=Tryz.isAgg3
 z3:=Tryz.sizeOf3
 t4:=Tryz.underlying4
 a4:=Tryz.isAgg4
 t24:=Tryz.underlying203
 a24:=Tryz.isAgg203
 z9:=Tryz.sizeOf198
 el:=by kernel_rfl
 gr:=by kernel_rfl
 two:=by decide
theorem ATM:M 366 ABT:=.Mf (.inl (.inl ⟨Fe,2,JV,rfl,rfl⟩))
def rb0:List (Nat×B3):=[(366,ABT.x),(308,ABo.x),(305,ABn.x),(302,ABm.x),(298,ABl.x),(295,ABk.x)]
abbrev MM(r:List (Nat×B3)):Prop:=∀p∈r,Mt (PB Tryz.prog) Tryz.prog p.1 p.2
theorem mb0:MM rb0:=(.and ATM (.and ATR (.and ATQ (.and ATP (.and ATO (.and ATN .none))))))
def lb1:List (Nat×GF):=[(6,ALJ),(28,ALK),(142,ALL),(73,B6),(71,ABK),(30,HN),(9,gQ),(95,ABC),(206,AFv),(174,AK3),(175,gU),(96,AK4),(44,ABD),(199,yd),(113,ASN),(200,AFu)]
def rb1:List (Nat×B3):=(lX lb1).reverseAux rb0
theorem mb1:MM rb1:=Mt.s mb0 (by kernel_rfl) (by kernel_rfl)
def lb2:List (Nat×GF):=[(114,ASO),(277,AMY),(267,AMy),(207,ANB),(275,ANC),(278,AND),(208,mK),(117,ANE),(178,K8),(359,ASP),(321,ASQ),(263,ANF),(180,ye),(264,AFw),(197,yf),(118,ANG)]
def rb2:List (Nat×B3):=(lX lb2).reverseAux rb1
theorem mb2:MM rb2:=Mt.s mb1 (by kernel_rfl) (by kernel_rfl)
def lb3:List (Nat×GF):=[(276,AFx),(202,AFy),(203,AFz),(201,ANH),(204,yZ),(205,ya),(115,ASK),(116,yb),(53,ZT),(363,ALI),(326,ABE),(214,ABF),(260,ABG),(216,ABH),(215,ABI),(279,ph)]
def rb3:List (Nat×B3):=(lX lb3).reverseAux rb2
theorem mb3:MM rb3:=Mt.s mb2 (by kernel_rfl) (by kernel_rfl)
def lb4:List (Nat×GF):=[(209,AK5),(98,LN),(100,pw),(72,O1),(210,AL7),(181,pj),(104,ALO),(51,MU),(101,gX),(136,mJ),(93,ASL),(173,ASM),(94,yc),(43,AFt),(179,ALP),(123,ABM)]
def rb4:List (Nat×B3):=(lX lb4).reverseAux rb3
theorem mb4:MM rb4:=Mt.s mb3 (by kernel_rfl) (by kernel_rfl)
def lb5:List (Nat×GF):=[(103,ALQ),(102,ABN),(48,pk),(261,gW),(183,O2),(184,ABa),(182,AL8),(262,AL9),(185,AMA),(105,Qm),(186,YI),(187,ABb),(265,Ul),(188,AMB),(189,Uk),(106,AMC)]
def rb5:List (Nat×B3):=(lX lb5).reverseAux rb4
theorem mb5:MM rb5:=Mt.s mb4 (by kernel_rfl) (by kernel_rfl)
def lb6:List (Nat×GF):=[(266,AMD),(195,ABc),(190,ABd),(191,py),(268,AME),(269,AMF),(192,pz),(107,AMG),(270,AMH),(193,ABe),(108,AMI),(194,AMJ),(109,ALv),(271,ALw),(196,ABZ),(110,ALx)]
def rb6:List (Nat×B3):=(lX lb6).reverseAux rb5
theorem mb6:MM rb6:=Mt.s mb5 (by kernel_rfl) (by kernel_rfl)
def lb7:List (Nat×GF):=[(111,ALy),(272,ALz),(360,AL0),(322,AL1),(273,AL2),(361,AL3),(362,AMO),(323,ABh),(324,ABi),(325,YJ),(274,AMP),(274,AMQ),(198,AMR),(112,AMS),(52,AMT),(18,ABj)]
def rb7:List (Nat×B3):=(lX lb7).reverseAux rb6
theorem mb7:MM rb7:=Mt.s mb6 (by kernel_rfl) (by kernel_rfl)
def lb8:List (Nat×GF):=[(65,ABp),(49,ABq),(16,ABv),(137,pt),(220,ABV),(283,ABO),(223,ALX),(334,px),(333,ALl),(332,ABU),(331,ALm),(335,ALn),(336,ALo),(50,gY),(282,ALp),(221,ALq)]
def rb8:List (Nat×B3):=(lX lb8).reverseAux rb7
theorem mb8:MM rb8:=Mt.s mb7 (by kernel_rfl) (by kernel_rfl)
def lb9:List (Nat×GF):=[(131,ABW),(130,ALr),(222,ALY),(134,ALZ),(328,ALa),(327,AM1),(329,AM2),(280,AM3),(211,AM4),(120,AM5),(99,ABS),(314,ABL),(315,ALM),(316,ALi),(257,ALj),(258,ALs)]
def rb9:List (Nat×B3):=(lX lb9).reverseAux rb8
theorem mb9:MM rb9:=Mt.s mb8 (by kernel_rfl) (by kernel_rfl)
def AVc:List (Nat×GF):=[(354,ABX),(317,ALt),(356,ABY),(388,ALu),(355,ABP),(318,ALb),(358,ABQ),(389,ALc),(357,ABR),(319,ALd),(320,ALe),(259,ALf),(176,ALg),(177,AM6),(97,AM7),(46,AM8)]
def AUR:List (Nat×B3):=(lX AVc).reverseAux rb9
theorem AVm:MM AUR:=Mt.s mb9 (by kernel_rfl) (by kernel_rfl)
def AVd:List (Nat×GF):=[(14,AM9),(147,pZ),(86,AK6),(235,pn),(236,po),(159,ALR),(83,LO),(47,pq),(32,Fv),(85,pQ),(151,Uj),(148,gR),(149,pR),(254,SQ),(369,AKv),(339,AA7)]
def AUS:List (Nat×B3):=(lX AVd).reverseAux AUR
theorem AVn:MM AUS:=Mt.s AVm (by kernel_rfl) (by kernel_rfl)
def AVe:List (Nat×GF):=[(288,JJ),(297,AA8),(350,pS),(349,AKw),(301,AA9),(255,ABA),(303,pU),(290,GI),(256,gT),(170,AKx),(346,AKy),(296,AKz),(241,pV),(367,ABB),(403,pW),(392,pX)]
def AUT:List (Nat×B3):=(lX AVe).reverseAux AUS
theorem AUN:MM AUT:=Mt.s AVn (by kernel_rfl) (by kernel_rfl)
theorem ATI:M 392 pX:=Mt.at AUN (by kernel_rfl)
theorem rZ:(k:Nat)->Mt (PB Tryz.prog) Tryz.prog 368 (Zo k).x|0=>.Mf (.inl (.inr ⟨rfl,_,Tryz.func368,by kernel_rfl,by kernel_rfl⟩))|k+1=>MB (f:=(AKk (Zo k)).x) Tryz.func368 (l:=[(392,pX.x),(368,(Zo k).x),(368,(Zo k).x)]) (.and ATI (.and (rZ k) (.and (rZ k) .none)))
theorem ATJ:M 368 pY:=rZ 7
def AUU:List (Nat×B3):=(368,pY.x)::AUT
theorem AVo:MM AUU:=Mt.and ATJ AUN
def AVf:List (Nat×GF):=[(338,AK0),(287,AKp),(228,AA5),(171,AKq),(379,AKr),(341,AKs),(370,pO),(340,AKt),(289,AKu),(230,AA6),(405,pP),(398,pb)]
def AUV:List (Nat×B3):=(lX AVf).reverseAux AUU
theorem AUO:MM AUV:=Mt.s AVo (by kernel_rfl) (by kernel_rfl)
theorem ATK:M 398 pb:=Mt.at AUO (by kernel_rfl)
theorem ra:(k:Nat)->Mt (PB Tryz.prog) Tryz.prog 380 (Zp k).x|0=>.Mf (.inl (.inr ⟨rfl,_,Tryz.func380,by kernel_rfl,by kernel_rfl⟩))|k+1=>MB (f:=(AKl (Zp k)).x) Tryz.func380 (l:=[(398,pb.x),(380,(Zp k).x),(380,(Zp k).x)]) (.and ATK (.and (ra k) (.and (ra k) .none)))
theorem ATL:M 380 pc:=ra 7
def AUW:List (Nat×B3):=(380,pc.x)::AUV
theorem AVp:MM AUW:=Mt.and ATL AUO
def AVg:List (Nat×GF):=[(342,AK7),(291,AK8),(231,AK9),(229,ALA),(232,ALB),(233,ALC),(150,ALD),(234,ALE),(152,pd),(76,pe),(129,pf),(77,ALF),(153,ALG),(78,gV),(33,pg),(144,ABJ)]
def AUX:List (Nat×B3):=(lX AVg).reverseAux AUW
theorem AVq:MM AUX:=Mt.s AVp (by kernel_rfl) (by kernel_rfl)
def AVh:List (Nat×GF):=[(145,AK1),(155,ALS),(146,AK2),(154,ALT),(80,ALU),(79,ALV),(35,ALW),(60,ALN),(343,qE),(293,AMU),(292,qF),(237,Un),(238,AMV),(239,AMW),(160,Qn),(294,qG)]
def AUY:List (Nat×B3):=(lX AVh).reverseAux AUX
theorem AVr:MM AUY:=Mt.s AVq (by kernel_rfl) (by kernel_rfl)
def AVi:List (Nat×GF):=[(293,AMX),(240,qH),(242,ABf),(300,qA),(299,AMK),(243,AML),(244,Um),(161,AMM),(245,ABg),(304,AMN),(246,qC),(306,qD),(299,AMi),(247,ABr),(307,qJ),(299,AMj)]
def AUZ:List (Nat×B3):=(lX AVi).reverseAux AUY
theorem AVs:MM AUZ:=Mt.s AVr (by kernel_rfl) (by kernel_rfl)
def AVj:List (Nat×GF):=[(248,qM),(249,qN),(162,AMk),(309,qO),(299,AMl),(250,ABs),(163,AMm),(310,qP),(299,AMn),(251,AMo),(164,AMp),(311,AMq),(252,ABt),(165,AMr),(166,AMs),(383,ABu)]
def AUa:List (Nat×B3):=(lX AVj).reverseAux AUZ
theorem AVt:MM AUa:=Mt.s AVs (by kernel_rfl) (by kernel_rfl)
def AVk:List (Nat×GF):=[(384,AMt),(351,AMu),(312,AMv),(385,AMw),(401,qQ),(349,AMx),(386,AMZ),(352,AMa),(387,qI),(299,AMb),(353,AMc),(337,ALk),(313,AMd),(253,AMe),(167,AMf),(84,AMg)]
def AUb:List (Nat×B3):=(lX AVk).reverseAux AUa
theorem AVu:MM AUb:=Mt.s AVt (by kernel_rfl) (by kernel_rfl)
def AVl:List (Nat×GF):=[(38,AMh),(36,AMz),(15,AM0),(17,ANA),(54,ALh),(119,AL4),(55,AL5),(19,AL6),(20,ALH),(4,Il)]
def AVy:List (Nat×B3):=(lX AVl).reverseAux AUb
theorem AVv:MM AVy:=Mt.s AVu (by kernel_rfl) (by kernel_rfl)
theorem iL:M 4 Il:=Mt.at AVv (by kernel_rfl)
end Go.Proofs.YtnjoipcemhflkaaGreat.fnCall
