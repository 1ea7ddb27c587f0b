/-
  The functions that the law FnBootTwice reaches are the texts that are shown.
-/
import Derived.Test.YtnjoipcemhflkaaGreatRows
import Derived.Test.YtnjoipcemhflkaaGreatLF
import Derived.Test.YtnjoipcemhflkaaGreatPUb
import Derived.JoinedCond
noncomputable section
set_option linter.unusedVariables false
set_option linter.unusedSimpArgs false
set_option linter.unusedSectionVars false
namespace Go.Proofs.YtnjoipcemhflkaaGreat.fnBootTwice
open Go Lv Lv.P
set_option maxRecDepth 100000
abbrev M(n:Nat)(g:GF):Prop:=Mt (PB Tryz.prog) Tryz.prog n g.x
theorem MB {A P n fn f} {l:List (Nat×B2)} (h1:P.funcs[n]?=some fn) (h4:∀p∈l,Mt A P p.1 p.2) (h2:ATO P fn f=true:=by kernel_rfl) (h3:AAN fn f=l:=by kernel_rfl):Mt A P n f:=Mt.by h1 h2 h3 h4
def DF:Go.Shelf.Ren:=⟨fun|29=>390|30=>391|n=>n,fun|0=>0|3=>3|4=>4|9=>198|24=>203|n=>n,fun n=>n⟩
theorem Ej:R3 Tryz.prog DF 366 2 where
 mixed:=by kernel_rfl
 f22:=⟨"slices.Insert[[]loop.example/g00494/impl.Pin,loop.example/g00494/impl.Pin]",by decide,Tryz.func366.trans (congrArg some (by kernel_rfl))⟩
 ov:=fun args w=>Go.run_callFunc_extern Tryz.func390 (by kernel_rfl) (by kernel_rfl) (by kernel_rfl) (by kernel_rfl) args w
 t3:=Tryz.underlying3
 a3:=Tryz.isAgg3
 z3:=Tryz.sizeOf3
 t4:=Tryz.underlying4
 a4:=Tryz.isAgg4
 t24:=Tryz.underlying203
 a24:=Tryz.isAgg203
 z9:=Tryz.sizeOf198
 el:=by kernel_rfl
 gr:=by kernel_rfl
 two:=by decide
theorem Ajc:M 366 VS:=.Jg (.inl (.inl ⟨DF,2,Ej,rfl,rfl⟩))
def Cy:Go.Shelf.Ren:=⟨fun|29=>344|30=>345|n=>n,fun|0=>0|3=>3|4=>4|9=>95|24=>28|n=>n,fun n=>n⟩
theorem EK:R3 Tryz.prog Cy 295 10 where
 mixed:=by kernel_rfl
 f22:=⟨"slices.Insert[[]loop.example/g00494/impl.Party,loop.example/g00494/impl.Party]",by decide,Tryz.func295.trans (congrArg some (by kernel_rfl))⟩
 ov:=fun args w=>Go.run_callFunc_extern Tryz.func344 (by kernel_rfl) (by kernel_rfl) (by kernel_rfl) (by kernel_rfl) args w
 t3:=Tryz.underlying3
 a3:=Tryz.isAgg3
 z3:=Tryz.sizeOf3
 t4:=Tryz.underlying4
 a4:=Tryz.isAgg4
 t24:=Tryz.underlying28
 a24:=Tryz.isAgg28
 z9:=Tryz.sizeOf95
 el:=by kernel_rfl
 gr:=by kernel_rfl
 two:=by decide
theorem Ajd:M 295 AGn:=.Jg (.inl (.inl ⟨Cy,10,EK,rfl,rfl⟩))
def Cx:Go.Shelf.Ren:=⟨fun|29=>347|30=>348|n=>n,fun|0=>0|3=>3|4=>4|9=>183|24=>99|n=>n,fun n=>n⟩
theorem EJ:R3 Tryz.prog Cx 298 4 where
 mixed:=by kernel_rfl
 f22:=⟨"slices.Insert[[]loop.example/g00494/impl.Entry,loop.example/g00494/impl.Entry]",by decide,Tryz.func298.trans (congrArg some (by kernel_rfl))⟩
 ov:=fun args w=>Go.run_callFunc_extern Tryz.func347 (by kernel_rfl) (by kernel_rfl) (by kernel_rfl) (by kernel_rfl) args w
 t3:=Tryz.underlying3
 a3:=Tryz.isAgg3
 z3:=Tryz.sizeOf3
 t4:=Tryz.underlying4
 a4:=Tryz.isAgg4
 t24:=Tryz.underlying99
 a24:=Tryz.isAgg99
 z9:=Tryz.sizeOf183
 el:=by kernel_rfl
 gr:=by kernel_rfl
 two:=by decide
theorem Aje:M 298 AGo:=.Jg (.inl (.inl ⟨Cx,4,EJ,rfl,rfl⟩))
def Cv:Go.Shelf.Ren:=⟨fun n=>n,fun|0=>0|3=>3|4=>4|9=>183|24=>99|n=>n,fun n=>n⟩
theorem EG:Vy Tryz.prog Cv 302 4 where
 mixed:=by kernel_rfl
 f24:=⟨"slices.Delete[[]loop.example/g00494/impl.Entry,loop.example/g00494/impl.Entry]",by decide,Tryz.func302.trans (congrArg some (by kernel_rfl))⟩
 t0:=Tryz.underlying0
 a0:=Tryz.isAgg0
 z0:=Tryz.sizeOf0
 t3:=Tryz.underlying3
 a3:=Tryz.isAgg3
 z3:=Tryz.sizeOf3
 t4:=Tryz.underlying4
 a4:=Tryz.isAgg4
 z4:=Tryz.sizeOf4
 t24:=Tryz.underlying99
 a24:=Tryz.isAgg99
 z24:=Tryz.sizeOf99
 z9:=Tryz.sizeOf183
 el:=by kernel_rfl
 gr:=by kernel_rfl
 zo:=by kernel_rfl
theorem Ajf:M 302 AGp:=.Jg (.inr ⟨Cv,4,EG,rfl,rfl⟩)
def DE:Go.Shelf.Ren:=⟨fun n=>n,fun|0=>0|3=>3|4=>4|9=>198|24=>203|n=>n,fun n=>n⟩
theorem Ei:Vy Tryz.prog DE 305 2 where
 mixed:=by kernel_rfl
 f24:=⟨"slices.Delete[[]loop.example/g00494/impl.Pin,loop.example/g00494/impl.Pin]",by decide,Tryz.func305.trans (congrArg some (by kernel_rfl))⟩
 t0:=Tryz.underlying0
 a0:=Tryz.isAgg0
 z0:=Tryz.sizeOf0
 t3:=Tryz.underlying3
 a3:=Tryz.isAgg3
 z3:=Tryz.sizeOf3
 t4:=Tryz.underlying4
 a4:=Tryz.isAgg4
 z4:=Tryz.sizeOf4
 t24:=Tryz.underlying203
 a24:=Tryz.isAgg203
 z24:=Tryz.sizeOf203
 z9:=Tryz.sizeOf198
 el:=by kernel_rfl
 gr:=by kernel_rfl
 zo:=by kernel_rfl
theorem Ajg:M 305 xD:=.Jg (.inr ⟨DE,2,Ei,rfl,rfl⟩)
def Cw:Go.Shelf.Ren:=⟨fun n=>n,fun|0=>0|3=>3|4=>4|9=>95|24=>28|n=>n,fun n=>n⟩
theorem EH:Vy Tryz.prog Cw 308 10 where
 mixed:=by kernel_rfl
 f24:=⟨"slices.Delete[[]loop.example/g00494/impl.Party,loop.example/g00494/impl.Party]",by decide,Tryz.func308.trans (congrArg some (by kernel_rfl))⟩
 t0:=Tryz.underlying0
 a0:=Tryz.isAgg0
 z0:=Tryz.sizeOf0
 t3:=Tryz.underlying3
 a3:=Tryz.isAgg3
 z3:=Tryz.sizeOf3
 t4:=Tryz.underlying4
 a4:=Tryz.isAgg4
 z4:=Tryz.sizeOf4
 t24:=Tryz.underlying28
 a24:=Tryz.isAgg28
 z24:=Tryz.sizeOf28
 z9:=Tryz.sizeOf95
 el:=by kernel_rfl
 gr:=by kernel_rfl
 zo:=by kernel_rfl
theorem Ajh:M 308 xE:=.Jg (.inr ⟨Cw,10,EH,rfl,rfl⟩)
def rb0:List (Nat×B2):=[(308,xE.x),(305,xD.x),(302,AGp.x),(298,AGo.x),(295,AGn.x),(366,VS.x)]
abbrev MM(r:List (Nat×B2)):Prop:=∀p∈r,Mt (PB Tryz.prog) Tryz.prog p.1 p.2
theorem mb0:MM rb0:=(.and Ajh (.and Ajg (.and Ajf (.and Aje (.and Ajd (.and Ajc .none))))))
def lb1:List (Nat×GF):=[(6,wP),(28,AGJ),(142,lN),(73,ARU),(71,wS),(30,Ho),(9,bU),(95,AFq),(206,ADW),(174,vg),(175,AFr),(96,wA),(44,AF7),(199,sI),(113,ARL),(200,ADV)]
def rb1:List (Nat×B2):=(lX lb1).reverseAux rb0
theorem mb1:MM rb1:=Mt.s mb0 (by kernel_rfl) (by kernel_rfl)
def lb2:List (Nat×GF):=[(114,ARb),(277,AL2),(267,AL3),(207,AR0),(275,AL4),(278,AL5),(208,mH),(117,AL6),(178,bV),(359,ASU),(321,ASV),(263,AL7),(180,ADX),(264,AL8),(197,ADY),(118,AL9)]
def rb2:List (Nat×B2):=(lX lb2).reverseAux rb1
theorem mb2:MM rb2:=Mt.s mb1 (by kernel_rfl) (by kernel_rfl)
def lb3:List (Nat×GF):=[(276,ADZ),(202,ADa),(203,AMA),(201,AMB),(204,AL0),(205,AL1),(115,ARI),(116,ADT),(53,Xf),(363,VQ),(326,ARK),(214,AFx),(260,AFy),(216,AFz),(215,AF0),(279,AF1)]
def rb3:List (Nat×B2):=(lX lb3).reverseAux rb2
theorem mb3:MM rb3:=Mt.s mb2 (by kernel_rfl) (by kernel_rfl)
def lb4:List (Nat×GF):=[(209,wD),(98,ARV),(100,AGL),(72,wT),(210,ARh),(181,wG),(104,ARQ),(51,AF8),(101,ZT),(136,Xg),(93,ADU),(173,ARJ),(94,sG),(43,sH),(179,ARR),(123,ARS)]
def rb4:List (Nat×B2):=(lX lb4).reverseAux rb3
theorem mb4:MM rb4:=Mt.s mb3 (by kernel_rfl) (by kernel_rfl)
def lb5:List (Nat×GF):=[(103,lH),(102,AF9),(48,LV),(261,AGK),(183,lR),(184,w6),(182,w7),(262,AGS),(185,ZZ),(105,lS),(186,ZV),(187,AGT),(265,AGU),(188,AGV),(189,ARX),(106,w8)]
def rb5:List (Nat×B2):=(lX lb5).reverseAux rb4
theorem mb5:MM rb5:=Mt.s mb4 (by kernel_rfl) (by kernel_rfl)
def lb6:List (Nat×GF):=[(266,ARi),(195,Nz),(190,w9),(191,AGW),(268,AGX),(269,AGY),(192,O0),(107,wu),(270,Sq),(193,AGM),(108,AGN),(194,AGO),(109,wv),(271,wy),(196,lQ),(110,AGP)]
def rb6:List (Nat×B2):=(lX lb6).reverseAux rb5
theorem mb6:MM rb6:=Mt.s mb5 (by kernel_rfl) (by kernel_rfl)
def lb7:List (Nat×GF):=[(111,AGb),(272,lg),(360,AGc),(322,AGd),(273,xB),(361,AGe),(362,AGf),(323,AGg),(324,AGh),(325,ARW),(274,xC),(274,AGi),(198,AGj),(112,AGk),(52,AGl),(18,AGm)]
def rb7:List (Nat×B2):=(lX lb7).reverseAux rb6
theorem mb7:MM rb7:=Mt.s mb6 (by kernel_rfl) (by kernel_rfl)
def lb8:List (Nat×GF):=[(65,AGq),(49,AGr),(16,AHH),(137,vu),(220,AGH),(283,lK),(223,lL),(334,ARa),(333,wH),(332,wJ),(331,AGE),(335,AGF),(336,AGG),(50,lM),(282,wN),(221,ZU)]
def rb8:List (Nat×B2):=(lX lb8).reverseAux rb7
theorem mb8:MM rb8:=Mt.s mb7 (by kernel_rfl) (by kernel_rfl)
def lb9:List (Nat×GF):=[(131,AGI),(130,w5),(222,ARM),(134,AF3),(328,ARN),(327,AHI),(329,AHJ),(280,mE),(211,AHK),(120,ARy),(122,AHQ),(213,ARn),(212,ARo),(121,ARp),(217,wa),(124,xO)]
def rb9:List (Nat×B2):=(lX lb9).reverseAux rb8
theorem mb9:MM rb9:=Mt.s mb8 (by kernel_rfl) (by kernel_rfl)
def AYU:List (Nat×GF):=[(125,VR),(364,ARz),(365,xK),(330,ARj),(281,ARk),(218,ARl),(126,ARm),(56,AHR),(21,mF),(139,ARc),(32,Et),(129,Qt),(144,AF2),(226,Km),(224,ZS),(284,ZW)]
def AUn:List (Nat×B2):=(lX AYU).reverseAux rb9
theorem AYj:MM AUn:=Mt.s mb9 (by kernel_rfl) (by kernel_rfl)
def AYV:List (Nat×GF):=[(147,ARO),(85,So),(285,lP),(151,Oy),(148,ZO),(346,AFj),(296,AFk),(241,lC),(367,vf),(403,lD),(392,VN)]
def AUo:List (Nat×B2):=(lX AYV).reverseAux AUn
theorem AWo:MM AUo:=Mt.s AYj (by kernel_rfl) (by kernel_rfl)
theorem AHs:M 392 VN:=Mt.at AWo (by kernel_rfl)
theorem Q9:(k:Nat)->Mt (PB Tryz.prog) Tryz.prog 368 (Ro k).x|0=>.Jg (.inl (.inr ⟨rfl,_,Tryz.func368,by kernel_rfl,by kernel_rfl⟩))|k+1=>MB (f:=(AFa (Ro k)).x) Tryz.func368 (l:=[(392,VN.x),(368,(Ro k).x),(368,(Ro k).x)]) (.and AHs (.and (Q9 k) (.and (Q9 k) .none)))
theorem AHt:M 368 ZP:=Q9 7
def AUp:List (Nat×B2):=(368,ZP.x)::AUo
theorem AYk:MM AUp:=Mt.and AHt AWo
def AYW:List (Nat×GF):=[(338,AFl),(287,AFc),(369,AFh),(339,vY),(288,I9),(228,ku),(232,vk),(233,vm),(370,kv),(405,ky),(398,VP)]
def AUq:List (Nat×B2):=(lX AYW).reverseAux AUp
theorem AWp:MM AUq:=Mt.s AYk (by kernel_rfl) (by kernel_rfl)
theorem AHu:M 398 VP:=Mt.at AWp (by kernel_rfl)
theorem RA:(k:Nat)->Mt (PB Tryz.prog) Tryz.prog 380 (Rp k).x|0=>.Jg (.inl (.inr ⟨rfl,_,Tryz.func380,by kernel_rfl,by kernel_rfl⟩))|k+1=>MB (f:=(AFb (Rp k)).x) Tryz.func380 (l:=[(398,VP.x),(380,(Rp k).x),(380,(Rp k).x)]) (.and AHu (.and (RA k) (.and (RA k) .none)))
theorem AHv:M 380 ZQ:=RA 7
def AUr:List (Nat×B2):=(380,ZQ.x)::AUq
theorem AYl:MM AUr:=Mt.and AHv AWp
def AYX:List (Nat×GF):=[(342,AFs),(291,AFt),(290,Gi),(231,vi),(169,wF),(236,AGA),(303,lB),(256,VM),(337,ARY),(286,ZX),(149,kz),(254,Oz),(297,vZ),(350,lA),(349,AFi),(301,va)]
def AUs:List (Nat×B2):=(lX AYX).reverseAux AUr
theorem AYm:MM AUs:=Mt.s AYl (by kernel_rfl) (by kernel_rfl)
def AYY:List (Nat×GF):=[(255,vd),(170,ve),(171,vX),(379,AFd),(341,AFe),(340,AFf),(289,AFg),(230,kx),(229,vj),(150,AFu),(234,AFv),(152,lG),(76,Qs),(227,vq),(143,AFp),(90,wg)]
def AUt:List (Nat×B2):=(lX AYY).reverseAux AUs
theorem AYn:MM AUt:=Mt.s AYm (by kernel_rfl) (by kernel_rfl)
def AYZ:List (Nat×GF):=[(225,ARZ),(143,vr),(145,VO),(146,lE),(74,lF),(143,AFm),(74,AFn),(140,AGQ),(68,ARd),(69,ARe),(77,vn),(154,AGC),(141,AF4),(70,AF5),(128,lO),(153,AFw)]
def AUu:List (Nat×B2):=(lX AYZ).reverseAux AUt
theorem AYo:MM AUu:=Mt.s AYn (by kernel_rfl) (by kernel_rfl)
def AYa:List (Nat×GF):=[(78,ZR),(155,AGB),(219,vt),(127,vz),(86,Sp),(235,lI),(159,lJ),(83,ART),(343,AGs),(293,AGt),(292,AGu),(237,lh),(238,lT),(239,lU),(160,lV),(294,lW)]
def AUv:List (Nat×B2):=(lX AYa).reverseAux AUu
theorem AYp:MM AUv:=Mt.s AYo (by kernel_rfl) (by kernel_rfl)
def AYb:List (Nat×GF):=[(293,lY),(240,xA),(242,AGZ),(300,lZ),(299,AGa),(243,lf),(244,Sr),(161,AG2),(245,AG3),(304,O1),(246,lk),(306,AG4),(299,ll),(247,xH),(307,ln),(299,AG5)]
def AUw:List (Nat×B2):=(lX AYb).reverseAux AUv
theorem AYq:MM AUw:=Mt.s AYp (by kernel_rfl) (by kernel_rfl)
def AYc:List (Nat×GF):=[(248,AG6),(249,Ss),(162,AG7),(309,xI),(299,AG8),(250,lq),(163,lu),(310,AG9),(299,xJ),(251,l9),(164,AHA),(311,mA),(252,mB),(165,AHB),(166,mC),(383,AHC)]
def AUx:List (Nat×B2):=(lX AYc).reverseAux AUw
theorem AYr:MM AUx:=Mt.s AYq (by kernel_rfl) (by kernel_rfl)
def AYd:List (Nat×GF):=[(384,xF),(351,AGv),(312,lj),(385,AGw),(401,AGx),(349,AGy),(386,AGz),(352,xG),(387,AG0),(299,AG1),(353,xM),(313,AHD),(253,AHE),(167,AHF),(84,AHG),(38,mD)]
def AXB:List (Nat×B2):=(lX AYd).reverseAux AUx
theorem AYs:MM AXB:=Mt.s AYr (by kernel_rfl) (by kernel_rfl)
def AbA:List (Nat×GF):=[(57,ARt),(58,ARu),(26,ARv),(59,ARw),(60,ARP),(22,ARx),(133,AHM),(138,AGD),(132,AF6),(61,AHN),(135,AHO),(62,AHP),(64,Za),(63,ARr),(23,ARs),(11,wV)]
def AZs:List (Nat×B2):=(lX AbA).reverseAux AXB
theorem AbC:MM AZs:=Mt.s AYs (by kernel_rfl) (by kernel_rfl)
def AbB:List (Nat×GF):=[(81,AHL),(66,ARq),(24,xL),(54,ARf),(119,ZY),(55,ARg),(19,AGR),(67,wW),(25,Ie),(5,F5)]
def AbH:List (Nat×B2):=(lX AbB).reverseAux AZs
theorem AbD:MM AbH:=Mt.s AbC (by kernel_rfl) (by kernel_rfl)
theorem UU:M 5 F5:=Mt.at AbD (by kernel_rfl)
end Go.Proofs.YtnjoipcemhflkaaGreat.fnBootTwice
