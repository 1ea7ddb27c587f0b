/-
  The functions that the law FnExactPlayed reaches are the texts that are shown.
-/
import Derived.Test.YtcmjfplpdjflnaaGreatRows
import Derived.Test.YtcmjfplpdjflnaaGreatLFb
import Derived.Test.YtcmjfplpdjflnaaGreatPVb
import Derived.JoinedCond
noncomputable section
set_option linter.unusedVariables false
set_option linter.unusedSimpArgs false
set_option linter.unusedSectionVars false
namespace Go.Proofs.YtcmjfplpdjflnaaGreat.fnExactPlayed
open Go Lv Lv.P
set_option maxRecDepth 100000
abbrev M(n:Nat)(g:GF):Prop:=Mt (PB Tryz.prog) Tryz.prog n g.x
theorem MB {A P n fn f} {l:List (Nat×CF)} (h1:P.funcs[n]?=some fn) (h4:∀p∈l,Mt A P p.1 p.2) (h2:AWY P fn f=true:=by kernel_rfl) (h3:AGE fn f=l:=by kernel_rfl):Mt A P n f:=Mt.by h1 h2 h3 h4
def Fw:Go.Shelf.Ren:=⟨fun|29=>459|30=>460|n=>n,fun|0=>0|3=>3|4=>4|9=>266|24=>225|n=>n,fun n=>n⟩
theorem JI:Yt Tryz.prog Fw 434 2 where
 mixed:=by kernel_rfl
 f22:=⟨"slices.Insert[[]loop.example/g00494/impl.Pin,loop.example/g00494/impl.Pin]",by decide,Tryz.func434.trans (congrArg some (by kernel_rfl))⟩
 ov:=fun args w=>Go.run_callFunc_extern Tryz.func459 (by kernel_rfl) (by kernel_rfl) (by kernel_rfl) (by kernel_rfl) args w
 t3:=Tryz.underlying3
 a3:=Tryz.isAgg3
 z3:=Tryz.sizeOf3
 t4:=Tryz.underlying4
 a4:=Tryz.isAgg4
 t24:=Tryz.underlying225
 a24:=Tryz.isAgg225
 z9:=Tryz.sizeOf266
 el:=by kernel_rfl
 gr:=by kernel_rfl
 two:=by decide
theorem AYa:M 434 ADo:=.Ll (.inl (.inl ⟨Fw,2,JI,rfl,rfl⟩))
def FB:Go.Shelf.Ren:=⟨fun|29=>419|30=>420|n=>n,fun|0=>0|3=>3|4=>4|9=>120|24=>27|n=>n,fun n=>n⟩
theorem II:Yt Tryz.prog FB 378 10 where
 mixed:=by kernel_rfl
 f22:=⟨"slices.Insert[[]loop.example/g00494/impl.Party,loop.example/g00494/impl.Party]",by decide,Tryz.func378.trans (congrArg some (by kernel_rfl))⟩
 ov:=fun args w=>Go.run_callFunc_extern Tryz.func419 (by kernel_rfl) (by kernel_rfl) (by kernel_rfl) (by kernel_rfl) args w
 t3:=Tryz.underlying3
 a3:=Tryz.isAgg3
 z3:=Tryz.sizeOf3
 t4:=Tryz.underlying4
 a4:=Tryz.isAgg4
 t24:=Tryz.underlying27
 a24:=Tryz.isAgg27
 z9:=Tryz.sizeOf120
 el:=by kernel_rfl
 gr:=by kernel_rfl
 two:=by decide
theorem AYe:M 378 AED:=.Ll (.inl (.inl ⟨FB,10,II,rfl,rfl⟩))
def FA:Go.Shelf.Ren:=⟨fun|29=>422|30=>423|n=>n,fun|0=>0|3=>3|4=>4|9=>232|24=>124|n=>n,fun n=>n⟩
theorem IH:Yt Tryz.prog FA 381 4 where
 mixed:=by kernel_rfl
 f22:=⟨"slices.Insert[[]loop.example/g00494/impl.Entry,loop.example/g00494/impl.Entry]",by decide,Tryz.func381.trans (congrArg some (by kernel_rfl))⟩
 ov:=fun args w=>Go.run_callFunc_extern Tryz.func422 (by kernel_rfl) (by kernel_rfl) (by kernel_rfl) (by kernel_rfl) args w
 t3:=Tryz.underlying3
 a3:=Tryz.isAgg3
 z3:=Tryz.sizeOf3
 t4:=Tryz.underlying4
 a4:=Tryz.isAgg4
 t24:=Tryz.underlying124
 a24:=Tryz.isAgg124
 z9:=Tryz.sizeOf232
 el:=by kernel_rfl
 gr:=by kernel_rfl
 two:=by decide
theorem AYf:M 381 AEE:=.Ll (.inl (.inl ⟨FA,4,IH,rfl,rfl⟩))
def E8:Go.Shelf.Ren:=⟨fun n=>n,fun|0=>0|3=>3|4=>4|9=>232|24=>124|n=>n,fun n=>n⟩
theorem IF:lF Tryz.prog E8 385 4 where
 mixed:=by kernel_rfl
 f24:=⟨"slices.Delete[[]loop.example/g00494/impl.Entry,loop.example/g00494/impl.Entry]",by decide,Tryz.func385.trans (congrArg some (by kernel_rfl))⟩
 t0:=Tryz.underlying0
 a0:=Tryz.isAgg0
 z0:=Tryz.sizeOf0
 t3:=Tryz.underlying3
 a3:=Tryz.isAgg3
 z3:=Tryz.sizeOf3
 t4:=Tryz.underlying4
 a4:=Tryz.isAgg4
 z4:=Tryz.sizeOf4
 t24:=Tryz.underlying124
 a24:=Tryz.isAgg124
 z24:=Tryz.sizeOf124
 z9:=Tryz.sizeOf232
 el:=by kernel_rfl
 gr:=by kernel_rfl
 zo:=by kernel_rfl
theorem AYb:M 385 AD6:=.Ll (.inr ⟨E8,4,IF,rfl,rfl⟩)
def Fv:Go.Shelf.Ren:=⟨fun n=>n,fun|0=>0|3=>3|4=>4|9=>266|24=>225|n=>n,fun n=>n⟩
theorem JE:lF Tryz.prog Fv 388 2 where
 mixed:=by kernel_rfl
 f24:=⟨"slices.Delete[[]loop.example/g00494/impl.Pin,loop.example/g00494/impl.Pin]",by decide,Tryz.func388.trans (congrArg some (by kernel_rfl))⟩
 t0:=Tryz.underlying0
 a0:=Tryz.isAgg0
 z0:=Tryz.sizeOf0
 t3:=Tryz.underlying3
 a3:=Tryz.isAgg3
 z3:=Tryz.sizeOf3
 t4:=Tryz.underlying4
 a4:=Tryz.isAgg4
 z4:=Tryz.sizeOf4
 t24:=Tryz.underlying225
 a24:=Tryz.isAgg225
 z24:=Tryz.sizeOf225
 z9:=Tryz.sizeOf266
 el:=by kernel_rfl
 gr:=by kernel_rfl
 zo:=by kernel_rfl
theorem AYc:M 388 AD7:=.Ll (.inr ⟨Fv,2,JE,rfl,rfl⟩)
def E9:Go.Shelf.Ren:=⟨fun n=>n,fun|0=>0|3=>3|4=>4|9=>120|24=>27|n=>n,fun n=>n⟩
theorem IG:lF Tryz.prog E9 391 10 where
 mixed:=by kernel_rfl
 f24:=⟨"slices.Delete[[]loop.example/g00494/impl.Party,loop.example/g00494/impl.Party]",by decide,Tryz.func391.trans (congrArg some (by kernel_rfl))⟩
 t0:=Tryz.underlying0
 a0:=Tryz.isAgg0
 z0:=Tryz.sizeOf0
 t3:=Tryz.underlying3
 a3:=Tryz.isAgg3
 z3:=Tryz.sizeOf3
 t4:=Tryz.underlying4
 a4:=Tryz.isAgg4
 z4:=Tryz.sizeOf4
 t24:=Tryz.underlying27
 a24:=Tryz.isAgg27
 z24:=Tryz.sizeOf27
 z9:=Tryz.sizeOf120
 el:=by kernel_rfl
 gr:=by kernel_rfl
 zo:=by kernel_rfl
theorem AYd:M 391 AD8:=.Ll (.inr ⟨E9,10,IG,rfl,rfl⟩)
def rb0:List (Nat×CF):=[(391,AD8.x),(388,AD7.x),(385,AD6.x),(381,AEE.x),(378,AED.x),(434,ADo.x)]
abbrev MM(r:List (Nat×CF)):Prop:=∀p∈r,Mt (PB Tryz.prog) Tryz.prog p.1 p.2
theorem mb0:MM rb0:=(.and AYd (.and AYc (.and AYb (.and AYf (.and AYe (.and AYa .none))))))
def lb1:List (Nat×GF):=[(69,AOq),(17,AXT),(34,ARo),(18,ARx),(71,AO2),(20,AXU),(91,AXV),(37,ARp),(21,ARy),(57,G3),(129,nO),(170,ADW),(206,AJG),(353,APR),(354,ADX),(286,APS)]
def rb1:List (Nat×CF):=(lX lb1).reverseAux rb0
theorem mb1:MM rb1:=Mt.s mb0 (by kernel_rfl) (by kernel_rfl)
def lb2:List (Nat×GF):=[(211,APT),(197,AA8),(130,AXW),(198,AJF),(131,AXX),(283,AR3),(284,AR4),(207,AXY),(281,AR5),(285,AR6),(208,AA9),(139,AXZ),(193,ABA),(407,AXa),(352,AXb),(279,AR7)]
def rb2:List (Nat×CF):=(lX lb2).reverseAux rb1
theorem mb2:MM rb2:=Mt.s mb1 (by kernel_rfl) (by kernel_rfl)
def lb3:List (Nat×GF):=[(252,AJH),(280,AR8),(199,AJI),(140,AXQ),(282,AJD),(201,AOm),(202,AOn),(200,AXR),(203,AOo),(204,AOp),(132,AXS),(133,AJE),(55,iC),(276,APX),(189,ADa),(275,ADb)]
def rb3:List (Nat×CF):=(lX lb3).reverseAux rb2
theorem mb3:MM rb3:=Mt.s mb2 (by kernel_rfl) (by kernel_rfl)
def lb4:List (Nat×GF):=[(188,ADc),(191,ADd),(190,ADe),(118,rJ),(143,APk),(70,APy),(253,rM),(171,APi),(103,La),(44,Xj),(153,ARq),(85,AER),(105,RS),(56,qv),(134,AOw),(58,iD)]
def rb4:List (Nat×CF):=(lX lb4).reverseAux rb3
theorem mb4:MM rb4:=Mt.s mb3 (by kernel_rfl) (by kernel_rfl)
def lb5:List (Nat×GF):=[(12,Xe),(196,ADi),(224,ADj),(154,APj),(117,ADq),(86,AP8),(325,rN),(255,N0),(256,AD4),(254,AQY),(332,AQZ),(257,AQa),(172,Pv),(258,iJ),(259,AD5),(333,Ty)]
def rb5:List (Nat×CF):=(lX lb5).reverseAux rb4
theorem mb5:MM rb5:=Mt.s mb4 (by kernel_rfl) (by kernel_rfl)
def lb6:List (Nat×GF):=[(260,AQI),(261,Xk),(173,AQJ),(334,AQK),(267,ADz),(262,AD0),(263,rT),(335,AQL),(336,AQM),(264,rU),(174,AQe),(337,AQf),(265,AD9),(175,AQg),(266,AQh),(176,AQi)]
def rb6:List (Nat×CF):=(lX lb6).reverseAux rb5
theorem mb6:MM rb6:=Mt.s mb5 (by kernel_rfl) (by kernel_rfl)
def lb7:List (Nat×GF):=[(338,AQj),(268,AEA),(177,AQk),(178,AQl),(339,AQm),(431,AQn),(403,AQo),(340,AQp),(432,AQq),(433,AQr),(404,AEB),(405,AEC),(397,rO),(341,AQs),(341,AQt),(269,AQu)]
def rb7:List (Nat×CF):=(lX lb7).reverseAux rb6
theorem mb7:MM rb7:=Mt.s mb6 (by kernel_rfl) (by kernel_rfl)
def lb8:List (Nat×GF):=[(179,AQv),(104,AQw),(45,rb),(46,rY),(8,AQb),(50,iK),(116,AD2),(278,ADu),(195,ADv),(349,rV),(348,AQQ),(347,AD1),(346,AQR),(350,AQS),(351,AQT),(66,AQU)]
def rb8:List (Nat×CF):=(lX lb8).reverseAux rb7
theorem mb8:MM rb8:=Mt.s mb7 (by kernel_rfl) (by kernel_rfl)
def lb9:List (Nat×GF):=[(277,AQV),(192,AQW),(119,iL),(115,rW),(194,AQD),(127,rR),(121,AQE),(120,ARa),(122,ARb),(51,ARc),(10,ARg),(124,ARj),(123,ARk),(52,AEP),(126,ARi),(128,ADw)]
def rb9:List (Nat×CF):=(lX lb9).reverseAux rb8
theorem mb9:MM rb9:=Mt.s mb8 (by kernel_rfl) (by kernel_rfl)
def AbE:List (Nat×GF):=[(125,AQH),(53,ARF),(295,ARG),(225,ARH),(54,ARI),(226,ARJ),(156,AEL),(155,ARl),(87,ARr),(35,ARs),(19,ARz),(93,Eb),(230,Tv),(181,Tx),(180,ADk),(367,Pu)]
def AZh:List (Nat×CF):=(lX AbE).reverseAux rb9
theorem AbU:MM AZh:=Mt.s mb9 (by kernel_rfl) (by kernel_rfl)
def AbF:List (Nat×GF):=[(355,APl),(356,ADl),(287,APm),(212,APn),(108,Pt),(231,iE),(232,qy),(440,AOx),(414,ADM),(371,I4),(380,ADN),(425,rA),(424,AOy),(384,ADO),(368,ADP),(386,rB)]
def AZi:List (Nat×CF):=(lX AbF).reverseAux AZh
theorem AbV:MM AZi:=Mt.s AbU (by kernel_rfl) (by kernel_rfl)
def AbG:List (Nat×GF):=[(373,GW),(369,iF),(298,AOz),(421,AO0),(379,AO1),(311,rC),(438,ADL),(474,qY),(463,qZ)]
def AZj:List (Nat×CF):=(lX AbG).reverseAux AZi
theorem AZd:MM AZj:=Mt.s AbV (by kernel_rfl) (by kernel_rfl)
theorem AYW:M 463 qZ:=Mt.at AZd (by kernel_rfl)
theorem sx:(k:Nat)->Mt (PB Tryz.prog) Tryz.prog 439 (Za k).x|0=>.Ll (.inl (.inr ⟨rfl,_,Tryz.func439,by kernel_rfl,by kernel_rfl⟩))|k+1=>MB (f:=(AOh (Za k)).x) Tryz.func439 (l:=[(463,qZ.x),(439,(Za k).x),(439,(Za k).x)]) (.and AYW (.and (sx k) (.and (sx k) .none)))
theorem AYX:M 439 qg:=sx 7
def AZk:List (Nat×CF):=(439,qg.x)::AZj
theorem AbW:MM AZk:=Mt.and AYX AZd
def AbH:List (Nat×GF):=[(413,AOr),(370,AOs),(300,qh),(299,AOt),(450,AOu),(416,AOv),(441,rD),(415,APD),(372,APE),(302,ADQ),(476,rF),(469,rG)]
def AZl:List (Nat×CF):=(lX AbH).reverseAux AZk
theorem AZe:MM AZl:=Mt.s AbW (by kernel_rfl) (by kernel_rfl)
theorem AYY:M 469 rG:=Mt.at AZe (by kernel_rfl)
theorem sy:(k:Nat)->Mt (PB Tryz.prog) Tryz.prog 451 (Zb k).x|0=>.Ll (.inl (.inr ⟨rfl,_,Tryz.func451,by kernel_rfl,by kernel_rfl⟩))|k+1=>MB (f:=(AOi (Zb k)).x) Tryz.func451 (l:=[(469,rG.x),(451,(Zb k).x),(451,(Zb k).x)]) (.and AYY (.and (sy k) (.and (sy k) .none)))
theorem AYZ:M 451 rH:=sy 7
def AZm:List (Nat×CF):=(451,rH.x)::AZl
theorem AbX:MM AZm:=Mt.and AYZ AZe
def AbI:List (Nat×GF):=[(417,APF),(374,APG),(303,ADR),(301,APH),(304,ADS),(305,ADT),(233,API),(306,APJ),(234,rI),(161,Tw),(272,ADf),(183,APY),(184,Xh),(185,rK),(186,rL),(112,APZ)]
def AZn:List (Nat×CF):=(lX AbI).reverseAux AZm
theorem AbY:MM AZn:=Mt.s AbX (by kernel_rfl) (by kernel_rfl)
def AbJ:List (Nat×GF):=[(183,APa),(112,APb),(138,RT),(63,iI),(144,APo),(72,APz),(270,rP),(271,rQ),(182,AP9),(106,Kq),(47,Xl),(160,ARt),(92,ARu),(135,ADU),(235,APK),(162,iG)]
def AZo:List (Nat×CF):=(lX AbJ).reverseAux AZn
theorem AbZ:MM AZo:=Mt.s AbY (by kernel_rfl) (by kernel_rfl)
def AbK:List (Nat×GF):=[(94,Xf),(48,AEN),(64,ARm),(14,AEQ),(109,AD3),(209,ADx),(273,ADy),(342,AP6),(343,AP7),(406,ADp),(344,AQN),(183,APc),(345,AQO),(274,AQP),(187,AQX),(113,iM)]
def AZp:List (Nat×CF):=(lX AbK).reverseAux AZo
theorem Aba:MM AZp:=Mt.s AbZ (by kernel_rfl) (by kernel_rfl)
def AbL:List (Nat×GF):=[(107,rX),(210,ADs),(142,AQF),(68,rS),(137,AP5),(236,ADr),(205,AQC),(136,AP4),(418,rZ),(376,AQc),(375,ra),(307,Tz),(308,AQd),(309,AQ4),(237,Pw),(377,rf)]
def AZq:List (Nat×CF):=(lX AbL).reverseAux AZp
theorem Abb:MM AZq:=Mt.s Aba (by kernel_rfl) (by kernel_rfl)
def AbM:List (Nat×GF):=[(376,AQ5),(310,rh),(312,AEH),(383,ri),(382,AQ6),(313,AQ7),(314,T0),(238,AQ8),(315,AEI),(387,AQ9),(316,rj),(389,rl),(382,ARA),(317,AEJ),(390,rm),(382,ARB)]
def AZr:List (Nat×CF):=(lX AbM).reverseAux AZq
theorem Abc:MM AZr:=Mt.s Abb (by kernel_rfl) (by kernel_rfl)
def AbN:List (Nat×GF):=[(318,rq),(319,rr),(239,ARC),(392,rz),(382,ARD),(320,AEK),(240,ARE),(393,re),(382,AQx),(321,AQy),(241,AQz),(394,AQ0),(322,AEF),(242,AQ1),(243,AQ2),(454,AEG)]
def AZs:List (Nat×CF):=(lX AbN).reverseAux AZr
theorem Abd:MM AZs:=Mt.s Abc (by kernel_rfl) (by kernel_rfl)
def AbO:List (Nat×GF):=[(455,AQ3),(426,ARN),(395,ARO),(456,ARP),(472,r5),(424,ARQ),(457,ARR),(427,ARS),(458,r6),(382,ART),(428,ARU),(396,ARV),(323,ARW),(244,ARX),(164,ARY),(98,r7)]
def AZt:List (Nat×CF):=(lX AbO).reverseAux AZs
theorem Abe:MM AZt:=Mt.s Abd (by kernel_rfl) (by kernel_rfl)
def AbP:List (Nat×GF):=[(59,AEM),(60,ARK),(62,ARL),(61,ARM),(13,AEO),(95,ARn),(163,AQA),(111,ADt),(96,AQB),(97,ARZ),(110,ARd),(16,AQG),(114,ARe),(49,ARf),(9,ARh),(38,ARv)]
def AZu:List (Nat×CF):=(lX AbP).reverseAux AZt
theorem Abf:MM AZu:=Mt.s Abe (by kernel_rfl) (by kernel_rfl)
def AbQ:List (Nat×GF):=[(22,AR0),(24,Xg),(25,ADV),(288,APL),(213,APM),(357,AO3),(408,AO4),(358,AO5),(461,AO6),(435,AO7),(409,AO8),(359,AO9),(289,APA),(214,APB),(145,APC),(215,APU)]
def AZv:List (Nat×CF):=(lX AbQ).reverseAux AZu
theorem Abg:MM AZv:=Mt.s Abf (by kernel_rfl) (by kernel_rfl)
def AbR:List (Nat×GF):=[(146,APV),(99,ADY),(74,ADZ),(73,APW),(147,AP0),(75,AP1),(23,AP2),(39,ARw),(26,AR1),(30,Xi),(27,ADh),(28,AR2),(216,APd),(290,APe),(360,APN),(291,APO)]
def AZw:List (Nat×CF):=(lX AbR).reverseAux AZv
theorem Abh:MM AZw:=Mt.s Abg (by kernel_rfl) (by kernel_rfl)
def AbS:List (Nat×GF):=[(217,APP),(148,APQ),(77,ADm),(76,APp),(78,AP3),(29,APf),(32,iH),(218,APq),(219,APr),(292,APs),(361,APt),(293,APu),(220,APv),(149,APw),(80,ADn),(79,APx)]
def AZx:List (Nat×CF):=(lX AbS).reverseAux AZw
theorem Abi:MM AZx:=Mt.s Abh (by kernel_rfl) (by kernel_rfl)
def AbT:List (Nat×GF):=[(81,APg),(31,APh),(4,Ew)]
def Abl:List (Nat×CF):=(lX AbT).reverseAux AZx
theorem Abj:MM Abl:=Mt.s Abi (by kernel_rfl) (by kernel_rfl)
theorem Qn:M 4 Ew:=Mt.at Abj (by kernel_rfl)
end Go.Proofs.YtcmjfplpdjflnaaGreat.fnExactPlayed
