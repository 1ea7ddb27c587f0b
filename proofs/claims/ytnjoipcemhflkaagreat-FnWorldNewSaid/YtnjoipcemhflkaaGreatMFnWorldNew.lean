/-
  The functions that the law FnWorldNew reaches are the texts that are shown.
-/
import Derived.Test.YtnjoipcemhflkaaGreatRows
import Derived.Test.YtnjoipcemhflkaaGreatLF
import Derived.Test.YtnjoipcemhflkaaGreatPWw
import Derived.JoinedCond
noncomputable section
set_option linter.unusedVariables false
set_option linter.unusedSimpArgs false
set_option linter.unusedSectionVars false
namespace Go.Proofs.YtnjoipcemhflkaaGreat.fnWorldNew
open Go Lv Lv.P
set_option maxRecDepth 100000
abbrev M(n:Nat)(g:GF):Prop:=Mt (PB Tryz.prog) Tryz.prog n g.x
theorem MB {A P n fn f} {l:List (Nat×B2)} (h1:P.funcs[n]?=some fn) (h4:∀p∈l,Mt A P p.1 p.2) (h2:ATO P fn f=true:=by kernel_rfl) (h3:AAN fn f=l:=by kernel_rfl):Mt A P n f:=Mt.by h1 h2 h3 h4
def DF:Go.Shelf.Ren:=⟨fun|29=>390|30=>391|n=>n,fun|0=>0|3=>3|4=>4|9=>198|24=>203|n=>n,fun n=>n⟩
theorem Ej:R3 Tryz.prog DF 366 2 where
 mixed:=by kernel_rfl
 f22:=⟨"slices.Insert[[]loop.example/g00494/impl.Pin,loop.example/g00494/impl.Pin]",by decide,Tryz.func366.trans (congrArg some (by kernel_rfl))⟩
 ov:=fun args w=>Go.run_callFunc_extern Tryz.func390 (by kernel_rfl) (by kernel_rfl) (by kernel_rfl) (by kernel_rfl) args w
 t3:=Tryz.underlying3
 a3:=Tryz.isAgg3
 z3:=Tryz.sizeOf3
 t4:=Tryz.underlying4
 a4:=Tryz.isAgg4
 t24:=Tryz.underlying203
 a24:=Tryz.isAgg203
 z9:=Tryz.sizeOf198
 el:=by kernel_rfl
 gr:=by kernel_rfl
 two:=by decide
theorem Ar7:M 366 ARU:=.Jg (.inl (.inl ⟨DF,2,Ej,rfl,rfl⟩))
def Cy:Go.Shelf.Ren:=⟨fun|29=>344|30=>345|n=>n,fun|0=>0|3=>3|4=>4|9=>95|24=>28|n=>n,fun n=>n⟩
theorem EK:R3 Tryz.prog Cy 295 10 where
 mixed:=by kernel_rfl
 f22:=⟨"slices.Insert[[]loop.example/g00494/impl.Party,loop.example/g00494/impl.Party]",by decide,Tryz.func295.trans (congrArg some (by kernel_rfl))⟩
 ov:=fun args w=>Go.run_callFunc_extern Tryz.func344 (by kernel_rfl) (by kernel_rfl) (by kernel_rfl) (by kernel_rfl) args w
 t3:=Tryz.underlying3
 a3:=Tryz.isAgg3
 z3:=Tryz.sizeOf3
 t4:=Tryz.underlying4
 a4:=Tryz.isAgg4
 t24:=Tryz.underlying28
 a24:=Tryz.isAgg28
 z9:=Tryz.sizeOf95
 el:=by kernel_rfl
 gr:=by kernel_rfl
 two:=by decide
theorem Ar9:M 295 w9:=.Jg (.inl (.inl ⟨Cy,10,EK,rfl,rfl⟩))
def Cx:Go.Shelf.Ren:=⟨fun|29=>347|30=>348|n=>n,fun|0=>0|3=>3|4=>4|9=>183|24=>99|n=>n,fun n=>n⟩
theorem EJ:R3 Tryz.prog Cx 298 4 where
 mixed:=by kernel_rfl
 f22:=⟨"slices.Insert[[]loop.example/g00494/impl.Entry,loop.example/g00494/impl.Entry]",by decide,Tryz.func298.trans (congrArg some (by kernel_rfl))⟩
 ov:=fun args w=>Go.run_callFunc_extern Tryz.func347 (by kernel_rfl) (by kernel_rfl) (by kernel_rfl) (by kernel_rfl) args w
 t3:=Tryz.underlying3
 a3:=Tryz.isAgg3
 z3:=Tryz.sizeOf3
 t4:=Tryz.underlying4
 a4:=Tryz.isAgg4
 t24:=Tryz.underlying99
 a24:=Tryz.isAgg99
 z9:=Tryz.sizeOf183
 el:=by kernel_rfl
 gr:=by kernel_rfl
 two:=by decide
theorem AsA:M 298 AGW:=.Jg (.inl (.inl ⟨Cx,4,EJ,rfl,rfl⟩))
def Cv:Go.Shelf.Ren:=⟨fun n=>n,fun|0=>0|3=>3|4=>4|9=>183|24=>99|n=>n,fun n=>n⟩
theorem EG:Vy Tryz.prog Cv 302 4 where
 mixed:=by kernel_rfl
 f24:=⟨"slices.Delete[[]loop.example/g00494/impl.Entry,loop.example/g00494/impl.Entry]",by decide,Tryz.func302.trans (congrArg some (by kernel_rfl))⟩
 t0:=Tryz.underlying0
 a0:=Tryz.isAgg0
 z0:=Tryz.sizeOf0
 t3:=Tryz.underlying3
 a3:=Tryz.isAgg3
 z3:=Tryz.sizeOf3
 t4:=Tryz.underlying4
 a4:=Tryz.isAgg4
 z4:=Tryz.sizeOf4
 t24:=Tryz.underlying99
 a24:=Tryz.isAgg99
 z24:=Tryz.sizeOf99
 z9:=Tryz.sizeOf183
 el:=by kernel_rfl
 gr:=by kernel_rfl
 zo:=by kernel_rfl
theorem AsB:M 302 AGX:=.Jg (.inr ⟨Cv,4,EG,rfl,rfl⟩)
def DE:Go.Shelf.Ren:=⟨fun n=>n,fun|0=>0|3=>3|4=>4|9=>198|24=>203|n=>n,fun n=>n⟩
theorem Ei:Vy Tryz.prog DE 305 2 where
 mixed:=by kernel_rfl
 f24:=⟨"slices.Delete[[]loop.example/g00494/impl.Pin,loop.example/g00494/impl.Pin]",by decide,Tryz.func305.trans (congrArg some (by kernel_rfl))⟩
 t0:=Tryz.underlying0
 a0:=Tryz.isAgg0
 z0:=Tryz.sizeOf0
 t3:=Tryz.underlying3
 a3:=Tryz.isAgg3
 z3:=Tryz.sizeOf3
 t4:=Tryz.underlying4
 a4:=Tryz.isAgg4
 z4:=Tryz.sizeOf4
 t24:=Tryz.underlying203
 a24:=Tryz.isAgg203
 z24:=Tryz.sizeOf203
 z9:=Tryz.sizeOf198
 el:=by kernel_rfl
 gr:=by kernel_rfl
 zo:=by kernel_rfl
theorem AsC:M 305 AGY:=.Jg (.inr ⟨DE,2,Ei,rfl,rfl⟩)
def Cw:Go.Shelf.Ren:=⟨fun n=>n,fun|0=>0|3=>3|4=>4|9=>95|24=>28|n=>n,fun n=>n⟩
theorem EH:Vy Tryz.prog Cw 308 10 where
 mixed:=by kernel_rfl
 f24:=⟨"slices.Delete[[]loop.example/g00494/impl.Party,loop.example/g00494/impl.Party]",by decide,Tryz.func308.trans (congrArg some (by kernel_rfl))⟩
 t0:=Tryz.underlying0
 a0:=Tryz.isAgg0
 z0:=Tryz.sizeOf0
 t3:=Tryz.underlying3
 a3:=Tryz.isAgg3
 z3:=Tryz.sizeOf3
 t4:=Tryz.underlying4
 a4:=Tryz.isAgg4
 z4:=Tryz.sizeOf4
 t24:=Tryz.underlying28
 a24:=Tryz.isAgg28
 z24:=Tryz.sizeOf28
 z9:=Tryz.sizeOf95
 el:=by kernel_rfl
 gr:=by kernel_rfl
 zo:=by kernel_rfl
theorem Ar8:M 308 O0:=.Jg (.inr ⟨Cw,10,EH,rfl,rfl⟩)
def rb0:List (Nat×B2):=[(308,O0.x),(305,AGY.x),(302,AGX.x),(298,AGW.x),(295,w9.x),(366,ARU.x)]
abbrev MM(r:List (Nat×B2)):Prop:=∀p∈r,Mt (PB Tryz.prog) Tryz.prog p.1 p.2
theorem mb0:MM rb0:=(.and Ar8 (.and AsC (.and AsB (.and AsA (.and Ar9 (.and Ar7 .none))))))
def lb1:List (Nat×GF):=[(6,Km),(28,ZS),(142,vt),(73,vu),(71,ARM),(72,AF6),(27,AHD),(7,mD),(32,Et),(85,So),(147,AFp),(86,AFq),(254,Oz),(168,vg),(169,AFr),(87,wA)]
def rb1:List (Nat×B2):=(lX lb1).reverseAux rb0
theorem mb1:MM rb1:=Mt.s mb0 (by kernel_rfl) (by kernel_rfl)
def lb2:List (Nat×GF):=[(39,AF7),(151,Oy),(148,ZO),(149,kz),(369,AFh),(339,vY),(288,I9),(297,vZ),(350,lA),(349,AFi),(301,va),(255,vd),(303,lB),(290,Gi),(256,VM),(170,ve)]
def rb2:List (Nat×B2):=(lX lb2).reverseAux rb1
theorem mb2:MM rb2:=Mt.s mb1 (by kernel_rfl) (by kernel_rfl)
def lb3:List (Nat×GF):=[(346,AFj),(296,AFk),(241,lC),(367,vf),(403,lD),(392,VN)]
def rb3:List (Nat×B2):=(lX lb3).reverseAux rb2
theorem mb3:MM rb3:=Mt.s mb2 (by kernel_rfl) (by kernel_rfl)
theorem AHs:M 392 VN:=Mt.at mb3 (by kernel_rfl)
theorem Q9:(k:Nat)->Mt (PB Tryz.prog) Tryz.prog 368 (Ro k).x|0=>.Jg (.inl (.inr ⟨rfl,_,Tryz.func368,by kernel_rfl,by kernel_rfl⟩))|k+1=>MB (f:=(AFa (Ro k)).x) Tryz.func368 (l:=[(392,VN.x),(368,(Ro k).x),(368,(Ro k).x)]) (.and AHs (.and (Q9 k) (.and (Q9 k) .none)))
theorem AHt:M 368 ZP:=Q9 7
def rb4:List (Nat×B2):=(368,ZP.x)::rb3
theorem mb4:MM rb4:=Mt.and AHt mb3
def lb5:List (Nat×GF):=[(338,AFl),(287,AFc),(228,ku),(171,vX),(379,AFd),(341,AFe),(370,kv),(340,AFf),(289,AFg),(230,kx),(405,ky),(398,VP)]
def rb5:List (Nat×B2):=(lX lb5).reverseAux rb4
theorem mb5:MM rb5:=Mt.s mb4 (by kernel_rfl) (by kernel_rfl)
theorem AHu:M 398 VP:=Mt.at mb5 (by kernel_rfl)
theorem RA:(k:Nat)->Mt (PB Tryz.prog) Tryz.prog 380 (Rp k).x|0=>.Jg (.inl (.inr ⟨rfl,_,Tryz.func380,by kernel_rfl,by kernel_rfl⟩))|k+1=>MB (f:=(AFb (Rp k)).x) Tryz.func380 (l:=[(398,VP.x),(380,(Rp k).x),(380,(Rp k).x)]) (.and AHu (.and (RA k) (.and (RA k) .none)))
theorem AHv:M 380 ZQ:=RA 7
def rb6:List (Nat×B2):=(380,ZQ.x)::rb5
theorem mb6:MM rb6:=Mt.and AHv mb5
def lb7:List (Nat×GF):=[(342,AFs),(291,AFt),(231,vi),(229,vj),(232,vk),(233,vm),(150,AFu),(234,AFv),(152,lG),(76,Qs),(227,ARK),(143,AFx),(144,AFy),(145,AFz),(146,AF0),(74,AF1)]
def rb7:List (Nat×B2):=(lX lb7).reverseAux rb6
theorem mb7:MM rb7:=Mt.s mb6 (by kernel_rfl) (by kernel_rfl)
def lb8:List (Nat×GF):=[(143,vq),(74,vr),(129,Qt),(60,wD),(29,ARO),(8,Sp),(30,Ho),(9,bU),(11,vz),(235,ARQ),(236,AF8),(159,ZT),(83,ARR),(47,ARS),(75,AHE),(31,AHF)]
def rb8:List (Nat×B2):=(lX lb8).reverseAux rb7
theorem mb8:MM rb8:=Mt.s mb7 (by kernel_rfl) (by kernel_rfl)
def lb9:List (Nat×GF):=[(77,vn),(153,AFw),(78,ZR),(33,VQ),(81,lq),(66,AHB),(24,mC),(139,ARX),(226,lJ),(224,ART),(284,AGJ),(285,lN),(337,wS),(286,ARV),(143,VO),(90,AGK)]
def rb9:List (Nat×B2):=(lX lb9).reverseAux rb8
theorem mb9:MM rb9:=Mt.s mb8 (by kernel_rfl) (by kernel_rfl)
def AYU:List (Nat×GF):=[(225,ZV),(140,AGL),(68,wT),(69,wV),(154,AF9),(141,AGC),(70,lK),(128,wP),(155,lH),(219,AGB),(127,AGD),(343,wu),(293,Sq),(292,AGM),(237,AGN),(238,AGO)]
def AUn:List (Nat×B2):=(lX AYU).reverseAux rb9
theorem AYj:MM AUn:=Mt.s mb9 (by kernel_rfl) (by kernel_rfl)
def AYV:List (Nat×GF):=[(239,wv),(160,wy),(294,lQ),(293,AGP),(240,AGb),(242,lg),(300,AGc),(299,AGd),(243,xB),(244,AGe),(161,AGf),(245,AGg),(304,AGh),(246,xC),(306,AGi),(299,AGj)]
def AUo:List (Nat×B2):=(lX AYV).reverseAux AUn
theorem AWo:MM AUo:=Mt.s AYj (by kernel_rfl) (by kernel_rfl)
def Aa8:List (Nat×GF):=[(247,AGk),(307,AGl),(299,AGm),(248,AGn),(249,AGo),(162,AGp),(309,xD),(299,xE),(250,AGq),(163,AGr),(310,AGs),(299,AGt),(251,AGu),(164,lh),(311,lT),(252,lU)]
def AUp:List (Nat×B2):=(lX Aa8).reverseAux AUo
theorem AYk:MM AUp:=Mt.s AWo (by kernel_rfl) (by kernel_rfl)
def AYW:List (Nat×GF):=[(165,lV),(166,lW),(383,lY),(384,xA),(351,AGZ),(312,lZ),(385,AGa),(401,lf),(349,Sr),(386,AG2),(352,AG3),(387,O1),(299,lk),(353,AG4),(313,ll),(253,xH)]
def AUq:List (Nat×B2):=(lX AYW).reverseAux AUp
theorem AWp:MM AUq:=Mt.s AYk (by kernel_rfl) (by kernel_rfl)
def Aa9:List (Nat×GF):=[(167,ln),(84,AG5),(38,AG6),(57,AG9),(58,xJ),(26,l9),(59,AHA),(22,mA),(34,AHC),(80,LV),(79,lI),(35,AGA),(36,Ss),(156,AG7),(158,lL),(157,xI)]
def AUr:List (Nat×B2):=(lX Aa9).reverseAux AUq
theorem AYl:MM AUr:=Mt.s AWp (by kernel_rfl) (by kernel_rfl)
def AYX:List (Nat×GF):=[(82,AG8),(37,lu),(10,AHG),(88,xF),(89,AGv),(91,AGx),(172,lj),(92,AGw),(40,AGy),(41,AG1),(42,AG0),(12,xM),(199,sI),(113,ARL),(200,ADV),(114,ARb)]
def AUs:List (Nat×B2):=(lX AYX).reverseAux AUr
theorem AYm:MM AUs:=Mt.s AYl (by kernel_rfl) (by kernel_rfl)
def AYY:List (Nat×GF):=[(206,ADW),(277,AL2),(267,AL3),(207,AR0),(275,AL4),(278,AL5),(208,mH),(117,AL6),(178,bV),(359,ASU),(321,ASV),(263,AL7),(180,ADX),(264,AL8),(197,ADY),(118,AL9)]
def AUt:List (Nat×B2):=(lX AYY).reverseAux AUs
theorem AYn:MM AUt:=Mt.s AYm (by kernel_rfl) (by kernel_rfl)
def AYZ:List (Nat×GF):=[(276,ADZ),(202,ADa),(203,AMA),(201,AMB),(204,AL0),(205,AL1),(115,ARI),(116,ADT),(53,Xf),(136,Xg),(93,ADU),(173,ARJ),(94,sG),(43,sH),(95,lE),(174,lF)]
def AUu:List (Nat×B2):=(lX AYZ).reverseAux AUt
theorem AYo:MM AUu:=Mt.s AYn (by kernel_rfl) (by kernel_rfl)
def AYa:List (Nat×GF):=[(175,AFm),(96,AFn),(44,AFo),(181,wF),(104,ARP),(51,wG),(261,AF3),(183,lO),(184,ZW),(182,lP),(262,VS),(185,ARY),(105,ZX),(186,ARN),(187,wg),(265,ARZ)]
def AUv:List (Nat×B2):=(lX AYa).reverseAux AUu
theorem AYp:MM AUv:=Mt.s AYo (by kernel_rfl) (by kernel_rfl)
def AYb:List (Nat×GF):=[(188,ARa),(189,AF5),(106,wH),(266,wJ),(195,AGE),(190,AGF),(191,AGG),(268,lM),(269,wN),(192,AGH),(107,ZU),(270,AGI),(193,w5),(108,ARc),(194,AGQ),(109,ARd)]
def AUw:List (Nat×B2):=(lX AYb).reverseAux AUv
theorem AYq:MM AUw:=Mt.s AYp (by kernel_rfl) (by kernel_rfl)
def AYc:List (Nat×GF):=[(271,ARe),(196,ARf),(110,ZY),(111,ARg),(272,AGR),(360,ARh),(322,lR),(273,w6),(361,w7),(362,AGS),(323,ZZ),(324,lS),(325,AF4),(274,AGT),(274,AGU),(198,AGV)]
def AUx:List (Nat×B2):=(lX AYc).reverseAux AUw
theorem AYr:MM AUx:=Mt.s AYq (by kernel_rfl) (by kernel_rfl)
def AYd:List (Nat×GF):=[(112,w8),(52,ARi),(18,Nz),(50,ARW),(54,wW),(119,Ie),(55,wa),(19,VR),(17,mB),(45,AGz),(13,xG),(3,Gg)]
def AXB:List (Nat×B2):=(lX AYd).reverseAux AUx
theorem AYs:MM AXB:=Mt.s AYr (by kernel_rfl) (by kernel_rfl)
theorem VX:M 3 Gg:=Mt.at AYs (by kernel_rfl)
end Go.Proofs.YtnjoipcemhflkaaGreat.fnWorldNew
