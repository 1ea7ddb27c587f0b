/-
  The functions that the law FnExactHappens reaches are the texts that are shown.
-/
import Derived.Test.YtcmjfplpdjflnaaGreatRows
import Derived.Test.YtcmjfplpdjflnaaGreatLF
import Derived.Test.YtcmjfplpdjflnaaGreatPV
import Derived.JoinedCond
noncomputable section
set_option linter.unusedVariables false
set_option linter.unusedSimpArgs false
set_option linter.unusedSectionVars false
namespace Go.Proofs.YtcmjfplpdjflnaaGreat.fnExactHappens
open Go Lv Lv.P
set_option maxRecDepth 100000
abbrev M(n:Nat)(g:GF):Prop:=Mt (PB Tryz.prog) Tryz.prog n g.x
theorem MB {A P n fn f} {l:List (Nat×CD)} (h1:P.funcs[n]?=some fn) (h4:∀p∈l,Mt A P p.1 p.2) (h2:AXA P fn f=true:=by kernel_rfl) (h3:AG2 fn f=l:=by kernel_rfl):Mt A P n f:=Mt.by h1 h2 h3 h4
def Fq:Go.Shelf.Ren:=⟨fun|29=>459|30=>460|n=>n,fun|0=>0|3=>3|4=>4|9=>266|24=>225|n=>n,fun n=>n⟩
theorem I5:Yz Tryz.prog Fq 434 2 where
 mixed:=by kernel_rfl
 f22:=⟨"slices.Insert[[]loop.example/g00494/impl.Pin,loop.example/g00494/impl.Pin]",by decide,Tryz.func434.trans (congrArg some (by kernel_rfl))⟩
 ov:=fun args w=>Go.run_callFunc_extern Tryz.func459 (by kernel_rfl) (by kernel_rfl) (by kernel_rfl) (by kernel_rfl) args w
 t3:=Tryz.underlying3
 a3:=Tryz.isAgg3
 z3:=Tryz.sizeOf3
 t4:=Tryz.underlying4
 a4:=Tryz.isAgg4
 t24:=Tryz.underlying225
 a24:=Tryz.isAgg225
 z9:=Tryz.sizeOf266
 el:=by kernel_rfl
 gr:=by kernel_rfl
 two:=by decide
theorem AZb:M 434 AEN:=.Lf (.inl (.inl ⟨Fq,2,I5,rfl,rfl⟩))
def E8:Go.Shelf.Ren:=⟨fun|29=>419|30=>420|n=>n,fun|0=>0|3=>3|4=>4|9=>120|24=>27|n=>n,fun n=>n⟩
theorem H6:Yz Tryz.prog E8 378 10 where
 mixed:=by kernel_rfl
 f22:=⟨"slices.Insert[[]loop.example/g00494/impl.Party,loop.example/g00494/impl.Party]",by decide,Tryz.func378.trans (congrArg some (by kernel_rfl))⟩
 ov:=fun args w=>Go.run_callFunc_extern Tryz.func419 (by kernel_rfl) (by kernel_rfl) (by kernel_rfl) (by kernel_rfl) args w
 t3:=Tryz.underlying3
 a3:=Tryz.isAgg3
 z3:=Tryz.sizeOf3
 t4:=Tryz.underlying4
 a4:=Tryz.isAgg4
 t24:=Tryz.underlying27
 a24:=Tryz.isAgg27
 z9:=Tryz.sizeOf120
 el:=by kernel_rfl
 gr:=by kernel_rfl
 two:=by decide
theorem AZc:M 378 AEa:=.Lf (.inl (.inl ⟨E8,10,H6,rfl,rfl⟩))
def E7:Go.Shelf.Ren:=⟨fun|29=>422|30=>423|n=>n,fun|0=>0|3=>3|4=>4|9=>232|24=>124|n=>n,fun n=>n⟩
theorem H5:Yz Tryz.prog E7 381 4 where
 mixed:=by kernel_rfl
 f22:=⟨"slices.Insert[[]loop.example/g00494/impl.Entry,loop.example/g00494/impl.Entry]",by decide,Tryz.func381.trans (congrArg some (by kernel_rfl))⟩
 ov:=fun args w=>Go.run_callFunc_extern Tryz.func422 (by kernel_rfl) (by kernel_rfl) (by kernel_rfl) (by kernel_rfl) args w
 t3:=Tryz.underlying3
 a3:=Tryz.isAgg3
 z3:=Tryz.sizeOf3
 t4:=Tryz.underlying4
 a4:=Tryz.isAgg4
 t24:=Tryz.underlying124
 a24:=Tryz.isAgg124
 z9:=Tryz.sizeOf232
 el:=by kernel_rfl
 gr:=by kernel_rfl
 two:=by decide
theorem AZd:M 381 AEb:=.Lf (.inl (.inl ⟨E7,4,H5,rfl,rfl⟩))
def E5:Go.Shelf.Ren:=⟨fun n=>n,fun|0=>0|3=>3|4=>4|9=>232|24=>124|n=>n,fun n=>n⟩
theorem H3:mG Tryz.prog E5 385 4 where
 mixed:=by kernel_rfl
 f24:=⟨"slices.Delete[[]loop.example/g00494/impl.Entry,loop.example/g00494/impl.Entry]",by decide,Tryz.func385.trans (congrArg some (by kernel_rfl))⟩
 t0:=Tryz.underlying0
 a0:=Tryz.isAgg0
 z0:=Tryz.sizeOf0
 t3:=Tryz.underlying3
 a3:=Tryz.isAgg3
 z3:=Tryz.sizeOf3
 t4:=Tryz.underlying4
 a4:=Tryz.isAgg4
 z4:=Tryz.sizeOf4
 t24:=Tryz.underlying124
 a24:=Tryz.isAgg124
 z24:=Tryz.sizeOf124
 z9:=Tryz.sizeOf232
 el:=by kernel_rfl
 gr:=by kernel_rfl
 zo:=by kernel_rfl
theorem AZe:M 385 AEc:=.Lf (.inr ⟨E5,4,H3,rfl,rfl⟩)
def Fp:Go.Shelf.Ren:=⟨fun n=>n,fun|0=>0|3=>3|4=>4|9=>266|24=>225|n=>n,fun n=>n⟩
theorem I0:mG Tryz.prog Fp 388 2 where
 mixed:=by kernel_rfl
 f24:=⟨"slices.Delete[[]loop.example/g00494/impl.Pin,loop.example/g00494/impl.Pin]",by decide,Tryz.func388.trans (congrArg some (by kernel_rfl))⟩
 t0:=Tryz.underlying0
 a0:=Tryz.isAgg0
 z0:=Tryz.sizeOf0
 t3:=Tryz.underlying3
 a3:=Tryz.isAgg3
 z3:=Tryz.sizeOf3
 t4:=Tryz.underlying4
 a4:=Tryz.isAgg4
 z4:=Tryz.sizeOf4
 t24:=Tryz.underlying225
 a24:=Tryz.isAgg225
 z24:=Tryz.sizeOf225
 z9:=Tryz.sizeOf266
 el:=by kernel_rfl
 gr:=by kernel_rfl
 zo:=by kernel_rfl
theorem AZf:M 388 AEd:=.Lf (.inr ⟨Fp,2,I0,rfl,rfl⟩)
def E6:Go.Shelf.Ren:=⟨fun n=>n,fun|0=>0|3=>3|4=>4|9=>120|24=>27|n=>n,fun n=>n⟩
theorem H4:mG Tryz.prog E6 391 10 where
 mixed:=by kernel_rfl
 f24:=⟨"slices.Delete[[]loop.example/g00494/impl.Party,loop.example/g00494/impl.Party]",by decide,Tryz.func391.trans (congrArg some (by kernel_rfl))⟩
 t0:=Tryz.underlying0
 a0:=Tryz.isAgg0
 z0:=Tryz.sizeOf0
 t3:=Tryz.underlying3
 a3:=Tryz.isAgg3
 z3:=Tryz.sizeOf3
 t4:=Tryz.underlying4
 a4:=Tryz.isAgg4
 z4:=Tryz.sizeOf4
 t24:=Tryz.underlying27
 a24:=Tryz.isAgg27
 z24:=Tryz.sizeOf27
 z9:=Tryz.sizeOf120
 el:=by kernel_rfl
 gr:=by kernel_rfl
 zo:=by kernel_rfl
theorem AZg:M 391 AEe:=.Lf (.inr ⟨E6,10,H4,rfl,rfl⟩)
def rb0:List (Nat×CD):=[(391,AEe.x),(388,AEd.x),(385,AEc.x),(381,AEb.x),(378,AEa.x),(434,AEN.x)]
abbrev MM(r:List (Nat×CD)):Prop:=∀p∈r,Mt (PB Tryz.prog) Tryz.prog p.1 p.2
theorem mb0:MM rb0:=(.and AZg (.and AZf (.and AZe (.and AZd (.and AZc (.and AZb .none))))))
def lb1:List (Nat×GF):=[(69,ABQ),(17,AX7),(221,AX8),(362,AX9),(436,AYA),(410,AYB),(363,AYC),(294,AYD),(222,AYE),(150,AYF),(223,AYG),(151,AYH),(83,ASj),(82,AYI),(152,ASV),(84,ASW)]
def rb1:List (Nat×CD):=(lX lb1).reverseAux rb0
theorem mb1:MM rb1:=Mt.s mb0 (by kernel_rfl) (by kernel_rfl)
def lb2:List (Nat×GF):=[(33,ASX),(34,ASD),(71,ABR),(20,AYJ),(296,AYK),(227,AYL),(364,AYM),(411,AYN),(365,AYO),(462,AYP),(437,AYQ),(412,AYR),(366,AYS),(297,AYT),(228,AX2),(157,AX3)]
def rb2:List (Nat×CD):=(lX lb2).reverseAux rb1
theorem mb2:MM rb2:=Mt.s mb1 (by kernel_rfl) (by kernel_rfl)
def lb3:List (Nat×GF):=[(229,AX4),(158,AX5),(91,APP),(89,APQ),(88,AX6),(159,ASY),(90,ASZ),(36,ASa),(37,ASE),(170,AQV),(252,rM),(253,rj),(171,AQk),(103,LW),(44,Xo),(153,ASF)]
def rb3:List (Nat×CD):=(lX lb3).reverseAux rb2
theorem mb3:MM rb3:=Mt.s mb2 (by kernel_rfl) (by kernel_rfl)
def lb4:List (Nat×GF):=[(85,AEl),(57,Gx),(129,ABO),(197,ABP),(130,APS),(198,rL),(131,APT),(206,ADe),(283,ADf),(284,ADg),(207,APU),(281,ADh),(285,ADi),(208,iq),(139,APV),(193,iu)]
def rb4:List (Nat×CD):=(lX lb4).reverseAux rb3
theorem mb4:MM rb4:=Mt.s mb3 (by kernel_rfl) (by kernel_rfl)
def lb5:List (Nat×GF):=[(407,APW),(352,APX),(279,ADj),(280,ADk),(199,rN),(140,APY),(282,rO),(201,ADl),(202,ADm),(200,APZ),(203,ADn),(204,ADo),(132,APa),(133,rJ),(55,Ti),(105,RF)]
def rb5:List (Nat×CD):=(lX lb5).reverseAux rb4
theorem mb5:MM rb5:=Mt.s mb4 (by kernel_rfl) (by kernel_rfl)
def lb6:List (Nat×GF):=[(56,rK),(134,APR),(58,il),(12,Xk),(275,ADy),(188,AD4),(196,AEH),(191,AD5),(190,AD6),(224,AEI),(154,AQl),(117,AEJ),(86,AQm),(325,r5),(255,Nr),(256,AES)]
def rb6:List (Nat×CD):=(lX lb6).reverseAux rb5
theorem mb6:MM rb6:=Mt.s mb5 (by kernel_rfl) (by kernel_rfl)
def lb7:List (Nat×GF):=[(254,ARG),(332,ARH),(257,ARI),(172,Pk),(258,jB),(259,AET),(333,Tm),(260,ARJ),(261,Xq),(173,ARK),(334,ARL),(267,AEU),(262,AEV),(263,r9),(335,ARM),(336,ARN)]
def rb7:List (Nat×CD):=(lX lb7).reverseAux rb6
theorem mb7:MM rb7:=Mt.s mb6 (by kernel_rfl) (by kernel_rfl)
def lb8:List (Nat×GF):=[(264,sA),(174,ARO),(337,ARP),(265,AEW),(175,ARQ),(266,ARR),(176,ARS),(338,ART),(268,AEX),(177,AQ8),(178,AQ9),(339,ARA),(431,ARB),(403,ARC),(340,ARD),(432,ARE)]
def rb8:List (Nat×CD):=(lX lb8).reverseAux rb7
theorem mb8:MM rb8:=Mt.s mb7 (by kernel_rfl) (by kernel_rfl)
def lb9:List (Nat×GF):=[(433,ARF),(404,AEQ),(405,AER),(397,r6),(341,ARY),(341,ARZ),(269,ARa),(179,ARb),(104,ARc),(45,sF),(46,sG),(8,ARd),(50,jA),(116,AEL),(278,AEB),(195,AEC)]
def rb9:List (Nat×CD):=(lX lb9).reverseAux rb8
theorem mb9:MM rb9:=Mt.s mb8 (by kernel_rfl) (by kernel_rfl)
def AcA:List (Nat×GF):=[(349,r7),(348,AQ5),(347,AEP),(346,AQ6),(350,AQ7),(354,AQW),(351,AQo),(276,APt),(189,ADx),(66,AQp),(277,AQq),(118,AD7),(192,AQr),(119,i6),(115,rq),(194,AQt)]
def Aah:List (Nat×CD):=(lX AcA).reverseAux rb9
theorem AcR:MM Aah:=Mt.s mb9 (by kernel_rfl) (by kernel_rfl)
def AcB:List (Nat×GF):=[(127,rr),(121,AQu),(120,ARq),(122,ARr),(51,ASG),(10,ASK),(124,ASb),(123,AR9),(52,AEj),(126,ASM),(128,AED),(125,AQx),(53,ASN),(295,ASO),(225,ASP),(54,ASQ)]
def Aai:List (Nat×CD):=(lX AcB).reverseAux Aah
theorem AcS:MM Aai:=Mt.s AcR (by kernel_rfl) (by kernel_rfl)
def AcC:List (Nat×GF):=[(226,ASR),(156,AEn),(155,ASA),(87,ASc),(35,ASd),(181,Tl),(180,AQA),(270,rl),(271,rm),(182,AQn),(106,Kf),(47,Xp),(160,ASe),(92,ASf),(93,Eb),(230,Xl)]
def Aaj:List (Nat×CD):=(lX AcC).reverseAux Aai
theorem AcT:MM Aaj:=Mt.s AcS (by kernel_rfl) (by kernel_rfl)
def AcD:List (Nat×GF):=[(108,Pj),(231,iv),(232,rT),(367,RG),(440,APg),(414,ADq),(371,Io),(380,ADr),(425,rU),(424,APh),(384,ADs),(368,ADt),(386,rV),(373,GP),(369,iw),(298,APi)]
def Aak:List (Nat×CD):=(lX AcD).reverseAux Aaj
theorem AcU:MM Aak:=Mt.s AcT (by kernel_rfl) (by kernel_rfl)
def AcE:List (Nat×GF):=[(421,APj),(379,APk),(311,rW),(438,ADu),(474,rX),(463,rY)]
def Aal:List (Nat×CD):=(lX AcE).reverseAux Aak
theorem Aad:MM Aal:=Mt.s AcU (by kernel_rfl) (by kernel_rfl)
theorem AZZ:M 463 rY:=Mt.at Aad (by kernel_rfl)
theorem tM:(k:Nat)->Mt (PB Tryz.prog) Tryz.prog 439 (Zl k).x|0=>.Lf (.inl (.inr ⟨rfl,_,Tryz.func439,by kernel_rfl,by kernel_rfl⟩))|k+1=>MB (f:=(APL (Zl k)).x) Tryz.func439 (l:=[(463,rY.x),(439,(Zl k).x),(439,(Zl k).x)]) (.and AZZ (.and (tM k) (.and (tM k) .none)))
theorem AZa:M 439 rZ:=tM 7
def Aam:List (Nat×CD):=(439,rZ.x)::Aal
theorem AcV:MM Aam:=Mt.and AZa Aad
def AcF:List (Nat×GF):=[(413,APl),(370,APm),(300,ra),(299,APn),(450,APb),(416,APc),(441,rP),(415,APd),(372,APe),(302,ADp),(476,rQ),(469,rR)]
def Aan:List (Nat×CD):=(lX AcF).reverseAux Aam
theorem Aae:MM Aan:=Mt.s AcV (by kernel_rfl) (by kernel_rfl)
theorem AZX:M 469 rR:=Mt.at Aae (by kernel_rfl)
theorem tL:(k:Nat)->Mt (PB Tryz.prog) Tryz.prog 451 (Zk k).x|0=>.Lf (.inl (.inr ⟨rfl,_,Tryz.func451,by kernel_rfl,by kernel_rfl⟩))|k+1=>MB (f:=(APK (Zk k)).x) Tryz.func451 (l:=[(469,rR.x),(451,(Zk k).x),(451,(Zk k).x)]) (.and AZX (.and (tL k) (.and (tL k) .none)))
theorem AZY:M 451 rS:=tL 7
def Aao:List (Nat×CD):=(451,rS.x)::Aan
theorem AcW:MM Aao:=Mt.and AZY Aae
def AcG:List (Nat×GF):=[(417,APf),(374,APu),(303,ADz),(301,APv),(304,AD0),(305,AD1),(233,APw),(306,APx),(234,rb),(161,Tj),(138,RI),(135,AD2),(235,APy),(162,iy),(94,Xm),(48,AEm)]
def Aap:List (Nat×CD):=(lX AcG).reverseAux Aao
theorem AcX:MM Aap:=Mt.s AcW (by kernel_rfl) (by kernel_rfl)
def AcH:List (Nat×GF):=[(64,ASB),(14,AEk),(109,AEM),(184,Xn),(209,AEE),(273,AEF),(342,AQ0),(343,AQ1),(356,AQB),(406,AEO),(344,AQ2),(272,AD8),(183,AQN),(345,AQ3),(274,AQ4),(183,AQI)]
def Aaq:List (Nat×CD):=(lX AcH).reverseAux Aap
theorem AcY:MM Aaq:=Mt.s AcX (by kernel_rfl) (by kernel_rfl)
def AcI:List (Nat×GF):=[(185,rf),(186,rh),(112,AQJ),(183,AQK),(112,AQL),(187,AQs),(113,i7),(107,r8),(210,AD9),(142,AQv),(68,rz),(137,AQz),(236,AEK),(205,AQZ),(136,AQy),(418,sH)]
def Aar:List (Nat×CD):=(lX AcI).reverseAux Aaq
theorem AcZ:MM Aar:=Mt.s AcY (by kernel_rfl) (by kernel_rfl)
def AcJ:List (Nat×GF):=[(376,ARe),(375,sI),(307,To),(308,ARf),(309,ARg),(237,Pl),(377,sJ),(376,ARh),(310,sK),(312,AEf),(383,sL),(382,ARi),(313,ARU),(314,Tn),(238,ARV),(315,AEY)]
def Aas:List (Nat×CD):=(lX AcJ).reverseAux Aar
theorem Aca:MM Aas:=Mt.s AcZ (by kernel_rfl) (by kernel_rfl)
def AcK:List (Nat×GF):=[(387,ARW),(316,sC),(389,sD),(382,ARX),(317,AEZ),(390,sE),(382,ARs),(318,sO),(319,sP),(239,ARt),(392,sQ),(382,ARu),(320,AEg),(240,ARv),(393,sR),(382,ARw)]
def Aat:List (Nat×CD):=(lX AcK).reverseAux Aas
theorem Acb:MM Aat:=Mt.s Aca (by kernel_rfl) (by kernel_rfl)
def AcL:List (Nat×GF):=[(321,ARx),(241,ARy),(394,ARz),(322,AEh),(242,AR0),(243,AR1),(454,AEi),(455,AR2),(426,AR3),(395,AR4),(456,AR5),(472,sS),(424,AR6),(457,AR7),(427,AR8),(458,sT)]
def Aau:List (Nat×CD):=(lX AcL).reverseAux Aat
theorem Acd:MM Aau:=Mt.s Acb (by kernel_rfl) (by kernel_rfl)
def AcM:List (Nat×GF):=[(382,ARj),(428,ARk),(396,ARl),(323,ARm),(244,ARn),(164,ARo),(98,sM),(59,AEo),(60,ASS),(62,AST),(61,ASU),(63,re),(13,AEp),(95,ASC),(163,AQX),(111,AEA)]
def Aav:List (Nat×CD):=(lX AcM).reverseAux Aau
theorem Ace:MM Aav:=Mt.s Acd (by kernel_rfl) (by kernel_rfl)
def AcN:List (Nat×GF):=[(96,AQY),(97,ARp),(110,ASH),(16,AQw),(114,ASI),(49,ASJ),(9,ASL),(38,ASg),(24,iz),(25,APz),(288,AP0),(213,AP1),(357,AP2),(408,AP3),(358,AP4),(461,AP5)]
def Aaw:List (Nat×CD):=(lX AcN).reverseAux Aav
theorem Acf:MM Aaw:=Mt.s Ace (by kernel_rfl) (by kernel_rfl)
def AcO:List (Nat×GF):=[(435,AP6),(409,AP7),(359,AP8),(289,AP9),(214,APo),(145,APp),(215,APq),(146,APr),(99,ADv),(74,ADw),(73,APs),(147,AQd),(75,AQe),(23,AQf),(39,ASh),(30,i5)]
def Aax:List (Nat×CD):=(lX AcO).reverseAux Aaw
theorem Acg:MM Aax:=Mt.s Acf (by kernel_rfl) (by kernel_rfl)
def AcP:List (Nat×GF):=[(27,AQO),(216,AQP),(290,AQQ),(360,AQR),(291,AQS),(217,AQT),(148,AQU),(77,AD3),(76,AQC),(78,AQg),(29,AQh),(40,ASi),(32,ri),(218,AQD),(219,AQE),(292,AQF)]
def Aay:List (Nat×CD):=(lX AcP).reverseAux Aax
theorem Ach:MM Aay:=Mt.s Acg (by kernel_rfl) (by kernel_rfl)
def AcQ:List (Nat×GF):=[(361,AQG),(293,AQH),(220,AQa),(149,AQb),(80,AEG),(79,AQc),(81,AQi),(31,AQj),(5,Eh)]
def Ack:List (Nat×CD):=(lX AcQ).reverseAux Aay
theorem Aci:MM Ack:=Mt.s Ach (by kernel_rfl) (by kernel_rfl)
theorem Px:M 5 Eh:=Mt.at Aci (by kernel_rfl)
end Go.Proofs.YtcmjfplpdjflnaaGreat.fnExactHappens
