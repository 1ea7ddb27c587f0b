/-
  The functions that the law FnSound reaches are the texts that are shown.
-/
import Derived.Test.YtfokjgkkeobaiaaGreatRows
import Derived.Test.YtfokjgkkeobaiaaGreatLF
import Derived.Test.YtfokjgkkeobaiaaGreatPN
import Derived.JoinedCond
set_option linter.all false
noncomputable section
namespace Go.Proofs.YtfokjgkkeobaiaaGreat.fnSound
open Go Lv Lv.P
set_option maxRecDepth 100000
abbrev M(n:Nat)(g:GF):Prop:=Mt (PB Tryz.prog) Tryz.prog n g.x
theorem MB {A P n fn f} {l:List (Nat×CN)} (h1:P.funcs[n]?=some fn) (h4:∀p∈l,Mt A P p.1 p.2) (h2:AWE P fn f=true:=by kernel_rfl) (h3:AHW fn f=l:=by kernel_rfl):Mt A P n f:=Mt.by h1 h2 h3 h4
def Gt:Go.Shelf.Ren:=⟨λ|29=>364|30=>365|n=>n,λ|0=>0|3=>3|4=>4|9=>195|24=>186|n=>n,λn=>n⟩
theorem KM:ae Tryz.prog Gt 338 2 where
 mixed:=by kernel_rfl
 f22:=⟨"slices.Insert[[]loop.example/g00494/impl.Pin,loop.example/g00494/impl.Pin]",by decide,Tryz.func338.trans (congrArg some (by kernel_rfl))⟩
 ov:=λargs w=>Go.run_callFunc_extern Tryz.func364 (by kernel_rfl) (by kernel_rfl) (by kernel_rfl) (by kernel_rfl) args w
 t3:=Tryz.underlying3
 a3:=Tryz.isAgg3
 z3:=Tryz.sizeOf3
 t4:=Tryz.underlying4
 a4:=Tryz.isAgg4
 t24:=Tryz.underlying186
 a24:=Tryz.isAgg186
 z9:=Tryz.sizeOf195
 el:=by kernel_rfl
 gr:=by kernel_rfl
 two:=by decide
theorem AYH:M 338 AFO:=.NC (.inl (.inl ⟨Gt,2,KM,rfl,rfl⟩))
def Fv:Go.Shelf.Ren:=⟨λ|29=>324|30=>325|n=>n,λ|0=>0|3=>3|4=>4|9=>97|24=>30|n=>n,λn=>n⟩
theorem JE:ae Tryz.prog Fv 280 10 where
 mixed:=by kernel_rfl
 f22:=⟨"slices.Insert[[]loop.example/g00494/impl.Party,loop.example/g00494/impl.Party]",by decide,Tryz.func280.trans (congrArg some (by kernel_rfl))⟩
 ov:=λargs w=>Go.run_callFunc_extern Tryz.func324 (by kernel_rfl) (by kernel_rfl) (by kernel_rfl) (by kernel_rfl) args w
 t3:=Tryz.underlying3
 a3:=Tryz.isAgg3
 z3:=Tryz.sizeOf3
 t4:=Tryz.underlying4
 a4:=Tryz.isAgg4
 t24:=Tryz.underlying30
 a24:=Tryz.isAgg30
 z9:=Tryz.sizeOf97
 el:=by kernel_rfl
 gr:=by kernel_rfl
 two:=by decide
theorem AYI:M 280 AFb:=.NC (.inl (.inl ⟨Fv,10,JE,rfl,rfl⟩))
def Fu:Go.Shelf.Ren:=⟨λ|29=>327|30=>328|n=>n,λ|0=>0|3=>3|4=>4|9=>179|24=>101|n=>n,λn=>n⟩
theorem JD:ae Tryz.prog Fu 283 4 where
 mixed:=by kernel_rfl
 f22:=⟨"slices.Insert[[]loop.example/g00494/impl.Entry,loop.example/g00494/impl.Entry]",by decide,Tryz.func283.trans (congrArg some (by kernel_rfl))⟩
 ov:=λargs w=>Go.run_callFunc_extern Tryz.func327 (by kernel_rfl) (by kernel_rfl) (by kernel_rfl) (by kernel_rfl) args w
 t3:=Tryz.underlying3
 a3:=Tryz.isAgg3
 z3:=Tryz.sizeOf3
 t4:=Tryz.underlying4
 a4:=Tryz.isAgg4
 t24:=Tryz.underlying101
 a24:=Tryz.isAgg101
 z9:=Tryz.sizeOf179
 el:=by kernel_rfl
 gr:=by kernel_rfl
 two:=by decide
theorem AYJ:M 283 AFc:=.NC (.inl (.inl ⟨Fu,4,JD,rfl,rfl⟩))
def Fs:Go.Shelf.Ren:=⟨λn=>n,λ|0=>0|3=>3|4=>4|9=>179|24=>101|n=>n,λn=>n⟩
theorem JB:oQ Tryz.prog Fs 287 4 where
 mixed:=by kernel_rfl
 f24:=⟨"slices.Delete[[]loop.example/g00494/impl.Entry,loop.example/g00494/impl.Entry]",by decide,Tryz.func287.trans (congrArg some (by kernel_rfl))⟩
 t0:=Tryz.underlying0
 a0:=Tryz.isAgg0
 z0:=Tryz.sizeOf0
 t3:=Tryz.underlying3
 a3:=Tryz.isAgg3
 z3:=Tryz.sizeOf3
 t4:=Tryz.underlying4
 a4:=Tryz.isAgg4
 z4:=Tryz.sizeOf4
 t24:=Tryz.underlying101
 a24:=Tryz.isAgg101
 z24:=Tryz.sizeOf101
 z9:=Tryz.sizeOf179
 el:=by kernel_rfl
 gr:=by kernel_rfl
 zo:=by kernel_rfl
theorem AYK:M 287 AFd:=.NC (.inr ⟨Fs,4,JB,rfl,rfl⟩)
def Gs:Go.Shelf.Ren:=⟨λn=>n,λ|0=>0|3=>3|4=>4|9=>195|24=>186|n=>n,λn=>n⟩
theorem KJ:oQ Tryz.prog Gs 290 2 where
 mixed:=by kernel_rfl
 f24:=⟨"slices.Delete[[]loop.example/g00494/impl.Pin,loop.example/g00494/impl.Pin]",by decide,Tryz.func290.trans (congrArg some (by kernel_rfl))⟩
 t0:=Tryz.underlying0
 a0:=Tryz.isAgg0
 z0:=Tryz.sizeOf0
 t3:=Tryz.underlying3
 a3:=Tryz.isAgg3
 z3:=Tryz.sizeOf3
 t4:=Tryz.underlying4
 a4:=Tryz.isAgg4
 z4:=Tryz.sizeOf4
 t24:=Tryz.underlying186
 a24:=Tryz.isAgg186
 z24:=Tryz.sizeOf186
 z9:=Tryz.sizeOf195
 el:=by kernel_rfl
 gr:=by kernel_rfl
 zo:=by kernel_rfl
theorem AYL:M 290 AFe:=.NC (.inr ⟨Gs,2,KJ,rfl,rfl⟩)
def Ft:Go.Shelf.Ren:=⟨λn=>n,λ|0=>0|3=>3|4=>4|9=>97|24=>30|n=>n,λn=>n⟩
theorem JC:oQ Tryz.prog Ft 293 10 where
 mixed:=by kernel_rfl
 f24:=⟨"slices.Delete[[]loop.example/g00494/impl.Party,loop.example/g00494/impl.Party]",by decide,Tryz.func293.trans (congrArg some (by kernel_rfl))⟩
 t0:=Tryz.underlying0
 a0:=Tryz.isAgg0
 z0:=Tryz.sizeOf0
 t3:=Tryz.underlying3
 a3:=Tryz.isAgg3
 z3:=Tryz.sizeOf3
 t4:=Tryz.underlying4
 a4:=Tryz.isAgg4
 z4:=Tryz.sizeOf4
 t24:=Tryz.underlying30
 a24:=Tryz.isAgg30
 z24:=Tryz.sizeOf30
 z9:=Tryz.sizeOf97
 el:=by kernel_rfl
 gr:=by kernel_rfl
 zo:=by kernel_rfl
theorem AYM:M 293 AFf:=.NC (.inr ⟨Ft,10,JC,rfl,rfl⟩)
def rb0:List (Nat×CN):=[(293,AFf.x),(290,AFe.x),(287,AFd.x),(283,AFc.x),(280,AFb.x),(338,AFO.x)]
abbrev MM(r:List (Nat×CN)):Prop:=∀p∈r,Mt (PB Tryz.prog) Tryz.prog p.1 p.2
theorem mb0:MM rb0:=(.and AYM (.and AYL (.and AYK (.and AYJ (.and AYI (.and AYH .none))))))
def lb1:List (Nat×GF):=[(5,APv),(24,AFM),(76,APw),(28,M4),(25,AFN),(36,Hk),(10,kb),(130,AEw),(192,AJt),(197,APM),(198,AFE),(131,APY),(67,APZ),(184,ACj),(118,AW8),(185,AJs)]
def rb1:List (Nat×CN):=(lX lb1).reverseAux rb0
theorem mb1:MM rb1:=Mt.s mb0 (by kernel_rfl) (by kernel_rfl)
def lb2:List (Nat×GF):=[(119,AW9),(266,AQf),(267,AQz),(193,AXA),(264,ARg),(268,ARh),(194,rI),(122,ARi),(133,kr),(339,AXB),(317,AXC),(262,ARj),(239,AJu),(263,ARk),(186,AJv),(123,ARl)]
def rb2:List (Nat×CN):=(lX lb2).reverseAux rb1
theorem mb2:MM rb2:=Mt.s mb1 (by kernel_rfl) (by kernel_rfl)
def lb3:List (Nat×GF):=[(265,AJw),(188,AJx),(189,ARm),(187,ARn),(190,AO6),(191,AO7),(120,AW6),(121,AJq),(57,bM),(270,APS),(200,AE2),(269,AE3),(199,AE4),(202,AE5),(201,AE6),(132,vB)]
def rb3:List (Nat×CN):=(lX lb3).reverseAux rb2
theorem mb3:MM rb3:=Mt.s mb2 (by kernel_rfl) (by kernel_rfl)
def lb4:List (Nat×GF):=[(72,APa),(26,AFH),(29,AQC),(30,kh),(73,APx),(77,vN),(74,ARa),(75,AQD),(240,vD),(168,APf),(107,M3),(134,ZX),(135,ARb),(78,AFr),(166,bN),(105,AJr)]
def rb4:List (Nat×CN):=(lX lb4).reverseAux rb3
theorem mb4:MM rb4:=Mt.s mb3 (by kernel_rfl) (by kernel_rfl)
def lb5:List (Nat×GF):=[(167,AW7),(106,ACi),(43,ka),(181,AFI),(203,AFJ),(137,APg),(136,AFK),(79,APh),(299,vL),(242,Pn),(243,AFW),(241,AQE),(300,AQF),(244,AQG),(169,Rb),(245,kj)]
def rb5:List (Nat×CN):=(lX lb5).reverseAux rb4
theorem mb5:MM rb5:=Mt.s mb4 (by kernel_rfl) (by kernel_rfl)
def lb6:List (Nat×GF):=[(246,AFX),(301,Vk),(247,AQH),(248,ZY),(170,AQI),(302,AQJ),(254,AFQ),(249,AFR),(250,vO),(303,AP1),(304,AP2),(251,vP),(171,AP3),(305,AP4),(252,AFS),(172,AP5)]
def rb6:List (Nat×CN):=(lX lb6).reverseAux rb5
theorem mb6:MM rb6:=Mt.s mb5 (by kernel_rfl) (by kernel_rfl)
def lb7:List (Nat×GF):=[(253,AQP),(173,AQQ),(306,AQR),(255,AFY),(174,AQS),(175,AQT),(307,AQU),(361,AQV),(334,AQW),(308,AQX),(362,AQY),(363,AQZ),(335,AFZ),(336,AFa),(337,vM),(309,AQa)]
def rb7:List (Nat×CN):=(lX lb7).reverseAux rb6
theorem mb7:MM rb7:=Mt.s mb6 (by kernel_rfl) (by kernel_rfl)
def lb8:List (Nat×GF):=[(309,AQb),(256,AQc),(176,AQd),(108,AQe),(44,kq),(138,vV),(80,AQK),(139,kg),(177,AFT),(258,AE9),(180,AFA),(313,vH),(312,APl),(311,AFL),(310,APm),(314,APn)]
def rb8:List (Nat×CN):=(lX lb8).reverseAux rb7
theorem mb8:MM rb8:=Mt.s mb7 (by kernel_rfl) (by kernel_rfl)
def lb9:List (Nat×GF):=[(315,APo),(59,vI),(257,AP6),(178,AP7),(112,km),(111,vQ),(179,APp),(115,vJ),(205,APq),(204,ARH),(206,ARI),(140,ARJ),(81,ARN),(110,AQ1),(109,AQ2),(45,vj)]
def rb9:List (Nat×CN):=(lX lb9).reverseAux rb8
theorem mb9:MM rb9:=Mt.s mb8 (by kernel_rfl) (by kernel_rfl)
def Aaq:List (Nat×GF):=[(114,ARP),(116,AFB),(113,APt),(46,AFo),(271,ARQ),(207,ARR),(47,AFp),(208,ARS),(142,AFm),(141,AQ3),(82,ARc),(32,AFs),(27,ARe),(31,AFq),(6,ARf),(7,ARd)]
def AZM:List (Nat×CN):=(lX Aaq).reverseAux rb9
theorem Aa4:MM AZM:=Mt.s mb9 (by kernel_rfl) (by kernel_rfl)
def Aar:List (Nat×GF):=[(9,ARZ),(62,Fa),(83,Vi),(143,ZW),(84,AFF),(209,Ra),(144,APb),(145,AFG),(85,APc),(33,APd),(50,RZ),(147,kf),(148,uh),(342,APD),(319,AEp),(273,J4)]
def AZN:List (Nat×CN):=(lX Aar).reverseAux AZM
theorem Aa5:MM AZN:=Mt.s Aa4 (by kernel_rfl) (by kernel_rfl)
def Aas:List (Nat×GF):=[(282,AEq),(330,ui),(329,APE),(286,AEr),(237,AEs),(288,uj),(275,HK),(238,ZU),(163,AEt),(326,APF),(281,APG),(224,uk),(340,AEu),(377,um),(366,uo)]
def AZO:List (Nat×CN):=(lX Aas).reverseAux AZN
theorem AZI:MM AZO:=Mt.s Aa5 (by kernel_rfl) (by kernel_rfl)
theorem AYD:M 366 uo:=Mt.at AZI (by kernel_rfl)
theorem xJ:(k:Nat)->Mt (PB Tryz.prog) Tryz.prog 341 (bt k).x|0=>.NC (.inl (.inr ⟨rfl,_,Tryz.func341,by kernel_rfl,by kernel_rfl⟩))|k+1=>MB (f:=(AO1 (bt k)).x) Tryz.func341 (l:=[(366,uo.x),(341,(bt k).x),(341,(bt k).x)]) (.and AYD (.and (xJ k) (.and (xJ k) .none)))
theorem AYE:M 341 uq:=xJ 7
def AZP:List (Nat×CN):=(341,uq.x)::AZO
theorem Aa6:MM AZP:=Mt.and AYE AZI
def Aat:List (Nat×GF):=[(318,APH),(272,AO8),(210,ud),(164,AEo),(352,AO9),(321,APA),(343,ue),(320,APB),(274,APC),(212,uf),(379,ug),(372,uw)]
def AZQ:List (Nat×CN):=(lX Aat).reverseAux AZP
theorem AZJ:MM AZQ:=Mt.s Aa6 (by kernel_rfl) (by kernel_rfl)
theorem AYF:M 372 uw:=Mt.at AZJ (by kernel_rfl)
theorem xK:(k:Nat)->Mt (PB Tryz.prog) Tryz.prog 353 (bu k).x|0=>.NC (.inl (.inr ⟨rfl,_,Tryz.func353,by kernel_rfl,by kernel_rfl⟩))|k+1=>MB (f:=(AO2 (bu k)).x) Tryz.func353 (l:=[(372,uw.x),(353,(bu k).x),(353,(bu k).x)]) (.and AYF (.and (xK k) (.and (xK k) .none)))
theorem AYG:M 353 ux:=xK 7
def AZR:List (Nat×CN):=(353,ux.x)::AZQ
theorem Aa7:MM AZR:=Mt.and AYG AZJ
def Aau:List (Nat×GF):=[(322,APN),(276,APO),(213,AEx),(211,AEy),(214,AEz),(215,AE0),(149,APP),(216,APQ),(150,uy),(91,TU),(146,AE7),(87,APT),(88,ZV),(89,ur),(90,uu),(35,API)]
def AZS:List (Nat×CN):=(lX Aau).reverseAux AZR
theorem Aa8:MM AZS:=Mt.s Aa7 (by kernel_rfl) (by kernel_rfl)
def Aav:List (Nat×GF):=[(87,APJ),(35,APK),(86,Vj),(34,vC),(8,APe),(92,AE1),(151,APR),(93,uz),(37,vA),(127,ARO),(94,AQ4),(38,AQ5),(51,AFU),(217,AFC),(182,AFD),(259,APz)]
def AZT:List (Nat×CN):=(lX Aav).reverseAux AZS
theorem Aa9:MM AZT:=Mt.s Aa8 (by kernel_rfl) (by kernel_rfl)
def Aaw:List (Nat×GF):=[(260,AP0),(219,vF),(316,AFP),(261,APj),(87,APL),(102,vG),(183,APk),(117,AP8),(54,ko),(49,vR),(195,APV),(153,APr),(97,vK),(96,APy),(196,APU),(152,APX)]
def AZU:List (Nat×CN):=(lX Aaw).reverseAux AZT
theorem AbA:MM AZU:=Mt.s Aa9 (by kernel_rfl) (by kernel_rfl)
def Aax:List (Nat×GF):=[(95,APu),(218,vE),(154,APi),(98,Lw),(323,vS),(278,AQL),(277,vT),(220,Vl),(221,AQM),(222,AQN),(155,Rc),(279,vU),(278,AQO),(223,vX),(225,AFi),(285,vY)]
def AZV:List (Nat×CN):=(lX Aax).reverseAux AZU
theorem AbB:MM AZV:=Mt.s AbA (by kernel_rfl) (by kernel_rfl)
def Aay:List (Nat×GF):=[(284,AQn),(226,AQo),(227,Vm),(156,AQp),(228,AFj),(289,AQq),(229,vZ),(291,va),(284,AQr),(230,AFk),(292,vd),(284,AQs),(231,ve),(232,vf),(157,AQt),(294,vg)]
def AZW:List (Nat×CN):=(lX Aay).reverseAux AZV
theorem AbC:MM AZW:=Mt.s AbB (by kernel_rfl) (by kernel_rfl)
def Aaz:List (Nat×GF):=[(284,AQu),(233,AFl),(158,AQv),(295,vi),(284,AQw),(234,AQx),(159,AQy),(296,AQg),(235,AFg),(160,AQh),(161,AQi),(356,AFh),(357,AQj),(331,AQk),(297,AQl),(358,AQm)]
def AZX:List (Nat×CN):=(lX Aaz).reverseAux AZW
theorem AbD:MM AZX:=Mt.s AbC (by kernel_rfl) (by kernel_rfl)
def Aa0:List (Nat×GF):=[(375,vW),(329,AQ7),(359,AQ8),(332,AQ9),(360,vk),(284,ARA),(333,ARB),(298,ARC),(236,ARD),(162,ARE),(99,ARF),(40,vm),(39,AFn),(100,ART),(101,ARU),(103,ARW)]
def AZY:List (Nat×CN):=(lX Aa0).reverseAux AZX
theorem AbE:MM AZY:=Mt.s AbD (by kernel_rfl) (by kernel_rfl)
def Aa1:List (Nat×GF):=[(165,ARV),(104,vn),(41,ARX),(42,AQ0),(11,ARY),(58,AP9),(124,AQA),(60,AQB),(15,AFV),(12,AQ6),(48,AE8),(13,ARG),(52,ARK),(53,APW),(56,APs),(55,ARL)]
def AZZ:List (Nat×CN):=(lX Aa1).reverseAux AZY
theorem AbF:MM AZZ:=Mt.s AbE (by kernel_rfl) (by kernel_rfl)
def Aa2:List (Nat×GF):=[(14,ARM),(3,Io)]
def AbJ:List (Nat×CN):=(lX Aa2).reverseAux AZZ
theorem AbG:MM AbJ:=Mt.s AbF (by kernel_rfl) (by kernel_rfl)
theorem cM:M 3 Io:=Mt.at AbG (by kernel_rfl)
end Go.Proofs.YtfokjgkkeobaiaaGreat.fnSound
