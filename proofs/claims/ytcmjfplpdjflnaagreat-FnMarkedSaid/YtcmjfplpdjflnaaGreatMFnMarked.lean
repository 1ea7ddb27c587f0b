/-
  The functions that the law FnMarked reaches are the texts that are shown.
-/
import Derived.Test.YtcmjfplpdjflnaaGreatRows
import Derived.Test.YtcmjfplpdjflnaaGreatLFc
import Derived.Test.YtcmjfplpdjflnaaGreatPUc
import Derived.JoinedCond
noncomputable section
set_option linter.unusedVariables false
set_option linter.unusedSimpArgs false
set_option linter.unusedSectionVars false
namespace Go.Proofs.YtcmjfplpdjflnaaGreat.fnMarked
open Go Lv Lv.P
set_option maxRecDepth 100000
abbrev M(n:Nat)(g:GF):Prop:=Mt (PB Tryz.prog) Tryz.prog n g.x
theorem MB {A P n fn f} {l:List (Nat×CI)} (h1:P.funcs[n]?=some fn) (h4:∀p∈l,Mt A P p.1 p.2) (h2:AVK P fn f=true:=by kernel_rfl) (h3:AGf fn f=l:=by kernel_rfl):Mt A P n f:=Mt.by h1 h2 h3 h4
def GP:Go.Shelf.Ren:=⟨fun|29=>459|30=>460|n=>n,fun|0=>0|3=>3|4=>4|9=>266|24=>225|n=>n,fun n=>n⟩
theorem Js:aA Tryz.prog GP 434 2 where
 mixed:=by kernel_rfl
 f22:=⟨"slices.Insert[[]loop.example/g00494/impl.Pin,loop.example/g00494/impl.Pin]",by decide,Tryz.func434.trans (congrArg some (by kernel_rfl))⟩
 ov:=fun args w=>Go.run_callFunc_extern Tryz.func459 (by kernel_rfl) (by kernel_rfl) (by kernel_rfl) (by kernel_rfl) args w
 t3:=Tryz.underlying3
 a3:=Tryz.isAgg3
 z3:=Tryz.sizeOf3
 t4:=Tryz.underlying4
 a4:=Tryz.isAgg4
 t24:=Tryz.underlying225
 a24:=Tryz.isAgg225
 z9:=Tryz.sizeOf266
 el:=by kernel_rfl
 gr:=by kernel_rfl
 two:=by decide
theorem AXI:M 434 AES:=.Mj (.inl (.inl ⟨GP,2,Js,rfl,rfl⟩))
def Fe:Go.Shelf.Ren:=⟨fun|29=>419|30=>420|n=>n,fun|0=>0|3=>3|4=>4|9=>120|24=>27|n=>n,fun n=>n⟩
theorem Ir:aA Tryz.prog Fe 378 10 where
 mixed:=by kernel_rfl
 f22:=⟨"slices.Insert[[]loop.example/g00494/impl.Party,loop.example/g00494/impl.Party]",by decide,Tryz.func378.trans (congrArg some (by kernel_rfl))⟩
 ov:=fun args w=>Go.run_callFunc_extern Tryz.func419 (by kernel_rfl) (by kernel_rfl) (by kernel_rfl) (by kernel_rfl) args w
 t3:=Tryz.underlying3
 a3:=Tryz.isAgg3
 z3:=Tryz.sizeOf3
 t4:=Tryz.underlying4
 a4:=Tryz.isAgg4
 t24:=Tryz.underlying27
 a24:=Tryz.isAgg27
 z9:=Tryz.sizeOf120
 el:=by kernel_rfl
 gr:=by kernel_rfl
 two:=by decide
theorem AXJ:M 378 AEf:=.Mj (.inl (.inl ⟨Fe,10,Ir,rfl,rfl⟩))
def Fc:Go.Shelf.Ren:=⟨fun|29=>422|30=>423|n=>n,fun|0=>0|3=>3|4=>4|9=>232|24=>124|n=>n,fun n=>n⟩
theorem Iq:aA Tryz.prog Fc 381 4 where
 mixed:=by kernel_rfl
 f22:=⟨"slices.Insert[[]loop.example/g00494/impl.Entry,loop.example/g00494/impl.Entry]",by decide,Tryz.func381.trans (congrArg some (by kernel_rfl))⟩
 ov:=fun args w=>Go.run_callFunc_extern Tryz.func422 (by kernel_rfl) (by kernel_rfl) (by kernel_rfl) (by kernel_rfl) args w
 t3:=Tryz.underlying3
 a3:=Tryz.isAgg3
 z3:=Tryz.sizeOf3
 t4:=Tryz.underlying4
 a4:=Tryz.isAgg4
 t24:=Tryz.underlying124
 a24:=Tryz.isAgg124
 z9:=Tryz.sizeOf232
 el:=by kernel_rfl
 gr:=by kernel_rfl
 two:=by decide
theorem AXK:M 381 AEg:=.Mj (.inl (.inl ⟨Fc,4,Iq,rfl,rfl⟩))
def Fa:Go.Shelf.Ren:=⟨fun n=>n,fun|0=>0|3=>3|4=>4|9=>232|24=>124|n=>n,fun n=>n⟩
theorem Io:nX Tryz.prog Fa 385 4 where
 mixed:=by kernel_rfl
 f24:=⟨"slices.Delete[[]loop.example/g00494/impl.Entry,loop.example/g00494/impl.Entry]",by decide,Tryz.func385.trans (congrArg some (by kernel_rfl))⟩
 t0:=Tryz.underlying0
 a0:=Tryz.isAgg0
 z0:=Tryz.sizeOf0
 t3:=Tryz.underlying3
 a3:=Tryz.isAgg3
 z3:=Tryz.sizeOf3
 t4:=Tryz.underlying4
 a4:=Tryz.isAgg4
 z4:=Tryz.sizeOf4
 t24:=Tryz.underlying124
 a24:=Tryz.isAgg124
 z24:=Tryz.sizeOf124
 z9:=Tryz.sizeOf232
 el:=by kernel_rfl
 gr:=by kernel_rfl
 zo:=by kernel_rfl
theorem AXL:M 385 AEh:=.Mj (.inr ⟨Fa,4,Io,rfl,rfl⟩)
def GO:Go.Shelf.Ren:=⟨fun n=>n,fun|0=>0|3=>3|4=>4|9=>266|24=>225|n=>n,fun n=>n⟩
theorem Jp:nX Tryz.prog GO 388 2 where
 mixed:=by kernel_rfl
 f24:=⟨"slices.Delete[[]loop.example/g00494/impl.Pin,loop.example/g00494/impl.Pin]",by decide,Tryz.func388.trans (congrArg some (by kernel_rfl))⟩
 t0:=Tryz.underlying0
 a0:=Tryz.isAgg0
 z0:=Tryz.sizeOf0
 t3:=Tryz.underlying3
 a3:=Tryz.isAgg3
 z3:=Tryz.sizeOf3
 t4:=Tryz.underlying4
 a4:=Tryz.isAgg4
 z4:=Tryz.sizeOf4
 t24:=Tryz.underlying225
 a24:=Tryz.isAgg225
 z24:=Tryz.sizeOf225
 z9:=Tryz.sizeOf266
 el:=by kernel_rfl
 gr:=by kernel_rfl
 zo:=by kernel_rfl
theorem AXM:M 388 AEo:=.Mj (.inr ⟨GO,2,Jp,rfl,rfl⟩)
def Fb:Go.Shelf.Ren:=⟨fun n=>n,fun|0=>0|3=>3|4=>4|9=>120|24=>27|n=>n,fun n=>n⟩
theorem Ip:nX Tryz.prog Fb 391 10 where
 mixed:=by kernel_rfl
 f24:=⟨"slices.Delete[[]loop.example/g00494/impl.Party,loop.example/g00494/impl.Party]",by decide,Tryz.func391.trans (congrArg some (by kernel_rfl))⟩
 t0:=Tryz.underlying0
 a0:=Tryz.isAgg0
 z0:=Tryz.sizeOf0
 t3:=Tryz.underlying3
 a3:=Tryz.isAgg3
 z3:=Tryz.sizeOf3
 t4:=Tryz.underlying4
 a4:=Tryz.isAgg4
 z4:=Tryz.sizeOf4
 t24:=Tryz.underlying27
 a24:=Tryz.isAgg27
 z24:=Tryz.sizeOf27
 z9:=Tryz.sizeOf120
 el:=by kernel_rfl
 gr:=by kernel_rfl
 zo:=by kernel_rfl
theorem AXN:M 391 AEp:=.Mj (.inr ⟨Fb,10,Ip,rfl,rfl⟩)
def rb0:List (Nat×CI):=[(391,AEp.x),(388,AEo.x),(385,AEh.x),(381,AEg.x),(378,AEf.x),(434,AES.x)]
abbrev MM(r:List (Nat×CI)):Prop:=∀p∈r,Mt (PB Tryz.prog) Tryz.prog p.1 p.2
theorem mb0:MM rb0:=(.and AXN (.and AXM (.and AXL (.and AXK (.and AXJ (.and AXI .none))))))
def lb1:List (Nat×GF):=[(6,AO3),(41,AO4),(169,AO5),(102,Gw),(245,AEP),(57,Hz),(129,kC),(170,AD1),(206,AIy),(353,AOW),(354,kG),(286,AOk),(211,AEG),(197,ABq),(130,AWH),(198,AIx)]
def rb1:List (Nat×CI):=(lX lb1).reverseAux rb0
theorem mb1:MM rb1:=Mt.s mb0 (by kernel_rfl) (by kernel_rfl)
def lb2:List (Nat×GF):=[(131,AWI),(283,APu),(284,AP8),(207,AQd),(281,AQu),(285,AQv),(208,pz),(139,AQw),(193,ah),(407,AWJ),(352,AWK),(279,AQx),(252,ABr),(280,AIz),(199,ABs),(140,AQy)]
def rb2:List (Nat×CI):=(lX lb2).reverseAux rb1
theorem mb2:MM rb2:=Mt.s mb1 (by kernel_rfl) (by kernel_rfl)
def lb3:List (Nat×GF):=[(282,AI0),(201,AI1),(202,AI2),(200,AQz),(203,ABm),(204,ABn),(132,AWF),(133,ABo),(55,ag),(276,AOe),(189,AD6),(275,AD7),(188,AD8),(191,AD9),(190,AEA),(118,tz)]
def rb3:List (Nat×CI):=(lX lb3).reverseAux rb2
theorem mb3:MM rb3:=Mt.s mb2 (by kernel_rfl) (by kernel_rfl)
def lb4:List (Nat×GF):=[(143,AOl),(101,O4),(246,AER),(43,N2),(247,APD),(253,uB),(171,AOo),(103,MZ),(44,kH),(105,j9),(56,AIw),(134,AWG),(58,ABp),(12,py),(196,AEI),(224,AEJ)]
def rb4:List (Nat×CI):=(lX lb4).reverseAux rb3
theorem mb4:MM rb4:=Mt.s mb3 (by kernel_rfl) (by kernel_rfl)
def lb5:List (Nat×GF):=[(154,AOp),(117,AEK),(86,uC),(325,kI),(255,O5),(256,AEV),(254,APE),(332,APF),(257,APG),(172,Qv),(258,Y9),(259,AEW),(333,VF),(260,APb),(261,VE),(173,APc)]
def rb5:List (Nat×CI):=(lX lb5).reverseAux rb4
theorem mb5:MM rb5:=Mt.s mb4 (by kernel_rfl) (by kernel_rfl)
def lb6:List (Nat×GF):=[(334,APd),(267,AEi),(262,AEj),(263,uL),(335,APe),(336,APf),(264,uM),(174,APg),(337,APh),(265,AEk),(175,APi),(266,APj),(176,APk),(338,APl),(268,AEl),(177,APm)]
def rb6:List (Nat×CI):=(lX lb6).reverseAux rb5
theorem mb6:MM rb6:=Mt.s mb5 (by kernel_rfl) (by kernel_rfl)
def lb7:List (Nat×GF):=[(178,APn),(339,APo),(431,APp),(403,APq),(340,APr),(432,APs),(433,APt),(404,AEm),(405,AEe),(397,ZA),(341,APW),(341,APX),(269,APY),(179,APZ),(104,APa),(45,uK)]
def rb7:List (Nat×CI):=(lX lb7).reverseAux rb6
theorem mb7:MM rb7:=Mt.s mb6 (by kernel_rfl) (by kernel_rfl)
def lb8:List (Nat×GF):=[(46,AEq),(8,kL),(248,AQb),(50,kF),(116,AEX),(278,AEM),(195,AEC),(349,uF),(348,AOx),(347,AEN),(346,AOy),(350,AOz),(351,AO0),(66,uG),(277,APH),(192,API)]
def rb8:List (Nat×CI):=(lX lb8).reverseAux rb7
theorem mb8:MM rb8:=Mt.s mb7 (by kernel_rfl) (by kernel_rfl)
def lb9:List (Nat×GF):=[(119,kJ),(115,uI),(194,AOh),(127,uA),(121,AOi),(120,AQc),(122,AP9),(51,AQA),(10,ua),(165,AQj),(166,AO9),(324,AEQ),(326,AO6),(327,AO7),(249,AO8),(250,APK)]
def rb9:List (Nat×CI):=(lX lb9).reverseAux rb8
theorem mb9:MM rb9:=Mt.s mb8 (by kernel_rfl) (by kernel_rfl)
def AZo:List (Nat×GF):=[(398,AEZ),(328,APL),(400,AEa),(429,APM),(399,AEb),(329,APN),(402,AEc),(430,APO),(401,AEd),(330,APP),(331,APQ),(251,APR),(167,APS),(168,AQk),(100,AQl),(42,AQs)]
def AYR:List (Nat×CI):=(lX AZo).reverseAux rb9
theorem AZ1:MM AYR:=Mt.s mb9 (by kernel_rfl) (by kernel_rfl)
def AZp:List (Nat×GF):=[(7,AQt),(181,Y8),(180,AOm),(270,uD),(271,uE),(182,AOq),(106,LV),(47,AEL),(48,AEu),(109,AEY),(93,E6),(138,Su),(184,Y7),(209,AEE),(273,AEF),(342,APB)]
def AYS:List (Nat×CI):=(lX AZp).reverseAux AYR
theorem AZ2:MM AYS:=Mt.s AZ1 (by kernel_rfl) (by kernel_rfl)
def AZq:List (Nat×GF):=[(230,Y6),(343,APC),(108,Qu),(231,kD),(421,AOO),(379,AOP),(311,th),(438,AD0),(474,tj),(463,tk)]
def AYT:List (Nat×CI):=(lX AZq).reverseAux AYS
theorem AYN:MM AYT:=Mt.s AZ2 (by kernel_rfl) (by kernel_rfl)
theorem AXE:M 463 tk:=Mt.at AYN (by kernel_rfl)
theorem vX:(k:Nat)->Mt (PB Tryz.prog) Tryz.prog 439 (bK k).x|0=>.Mj (.inl (.inr ⟨rfl,_,Tryz.func439,by kernel_rfl,by kernel_rfl⟩))|k+1=>MB (f:=(AOA (bK k)).x) Tryz.func439 (l:=[(463,tk.x),(439,(bK k).x),(439,(bK k).x)]) (.and AXE (.and (vX k) (.and (vX k) .none)))
theorem AXF:M 439 tl:=vX 7
def AYU:List (Nat×CI):=(439,tl.x)::AYT
theorem AZ3:MM AYU:=Mt.and AXF AYN
def AZr:List (Nat×GF):=[(413,AOQ),(370,AOF),(440,AOL),(414,ADw),(371,Jd),(300,tX),(304,AD3),(305,AD4),(441,tY),(476,tZ),(469,tq)]
def AYV:List (Nat×CI):=(lX AZr).reverseAux AYU
theorem AYO:MM AYV:=Mt.s AZ3 (by kernel_rfl) (by kernel_rfl)
theorem AXG:M 469 tq:=Mt.at AYO (by kernel_rfl)
theorem vY:(k:Nat)->Mt (PB Tryz.prog) Tryz.prog 451 (bL k).x|0=>.Mj (.inl (.inr ⟨rfl,_,Tryz.func451,by kernel_rfl,by kernel_rfl⟩))|k+1=>MB (f:=(AOB (bL k)).x) Tryz.func451 (l:=[(469,tq.x),(451,(bL k).x),(451,(bL k).x)]) (.and AXG (.and (vY k) (.and (vY k) .none)))
theorem AXH:M 451 tt:=vY 7
def AYW:List (Nat×CI):=(451,tt.x)::AYV
theorem AZ4:MM AYW:=Mt.and AXH AYO
def AZs:List (Nat×GF):=[(417,AOX),(374,AOY),(373,Gv),(303,AD2),(356,AOn),(386,tf),(369,kE),(406,AET),(344,AOu),(232,ta),(367,Ss),(380,ADx),(425,te),(424,AOM),(384,ADy),(368,ADz)]
def AYX:List (Nat×CI):=(lX AZs).reverseAux AYW
theorem AZ5:MM AYX:=Mt.s AZ4 (by kernel_rfl) (by kernel_rfl)
def AZt:List (Nat×GF):=[(298,AON),(299,AOG),(450,AOH),(416,AOI),(415,AOJ),(372,AOK),(302,ADv),(301,AOZ),(233,AOa),(306,AOb),(234,tu),(161,VD),(272,AEB),(183,AOV),(345,AOv),(274,AOw)]
def AYY:List (Nat×CI):=(lX AZt).reverseAux AYX
theorem AZ6:MM AYY:=Mt.s AZ5 (by kernel_rfl) (by kernel_rfl)
def AZu:List (Nat×GF):=[(183,AOf),(185,tn),(186,tp),(112,AOR),(183,AOS),(112,AOT),(187,APJ),(113,kK),(107,uJ),(135,AD5),(235,AOc),(162,tx),(94,AOd),(110,AQB),(111,AOt),(63,AEH)]
def AYZ:List (Nat×CI):=(lX AZu).reverseAux AYY
theorem AZ7:MM AYZ:=Mt.s AZ6 (by kernel_rfl) (by kernel_rfl)
def AZv:List (Nat×GF):=[(210,AOs),(142,AOj),(68,uH),(16,AEO),(114,AQC),(49,AQD),(9,AQE),(124,AQm),(123,AQn),(52,AQo),(126,AQF),(128,AED),(125,AO1),(53,AQG),(54,AQe),(65,APT)]
def AYa:List (Nat×CI):=(lX AZv).reverseAux AYZ
theorem AZ8:MM AYa:=Mt.s AZ7 (by kernel_rfl) (by kernel_rfl)
def AZw:List (Nat×GF):=[(141,APU),(67,APV),(15,AEU),(11,AQr),(64,AQp),(14,AQq),(137,APA),(236,AOr),(205,AOg),(136,AO2),(418,uS),(376,APz),(375,uU),(307,VG),(308,AP0),(309,AP1)]
def AYb:List (Nat×CI):=(lX AZw).reverseAux AYa
theorem AZ9:MM AYb:=Mt.s AZ8 (by kernel_rfl) (by kernel_rfl)
def AZx:List (Nat×GF):=[(237,Qw),(377,uV),(376,AP2),(310,uW),(312,AEr),(383,uX),(382,AP3),(313,AP4),(314,VH),(238,AP5),(315,AEs),(387,AP6),(316,uY),(389,uZ),(382,AP7),(317,AEt)]
def AYc:List (Nat×CI):=(lX AZx).reverseAux AYb
theorem AaA:MM AYc:=Mt.s AZ9 (by kernel_rfl) (by kernel_rfl)
def AZy:List (Nat×GF):=[(390,uN),(382,APv),(318,uO),(319,uP),(239,APw),(392,uQ),(382,APx),(320,AEn),(240,APy),(393,uR),(382,AQH),(321,AQI),(241,AQJ),(394,AQK),(322,AEv),(242,AQL)]
def AYd:List (Nat×CI):=(lX AZy).reverseAux AYc
theorem AaB:MM AYd:=Mt.s AaA (by kernel_rfl) (by kernel_rfl)
def AZz:List (Nat×GF):=[(243,AQM),(454,AEw),(455,AQN),(426,AQO),(395,AQP),(456,AQQ),(472,ub),(424,AQR),(457,AQS),(427,AQT),(458,uc),(382,AQU),(428,AQV),(396,AQW),(323,AQX),(244,AQY)]
def AYe:List (Nat×CI):=(lX AZz).reverseAux AYd
theorem AaC:MM AYe:=Mt.s AaB (by kernel_rfl) (by kernel_rfl)
def AZ0:List (Nat×GF):=[(164,AQZ),(98,AQa),(59,AEx),(60,AQf),(62,AQg),(61,AQh),(13,AQi),(3,Hn)]
def AaG:List (Nat×CI):=(lX AZ0).reverseAux AYe
theorem AaD:MM AaG:=Mt.s AaC (by kernel_rfl) (by kernel_rfl)
theorem Zh:M 3 Hn:=Mt.at AaD (by kernel_rfl)
end Go.Proofs.YtcmjfplpdjflnaaGreat.fnMarked
