/-
  The functions that the law FnStays reaches are the texts that are shown.
-/
import Derived.Test.YtfokjgkkeobaiaaGreatRows
import Derived.Test.YtfokjgkkeobaiaaGreatLFS
import Derived.Test.YtfokjgkkeobaiaaGreatPNS
import Derived.JoinedCond
set_option linter.all false
noncomputable section
namespace Go.Proofs.YtfokjgkkeobaiaaGreat.fnStays
open Go Lv Lv.P
set_option maxRecDepth 100000
abbrev M(n:Nat)(g:GF):Prop:=Mt (PB Tryz.prog) Tryz.prog n g.x
theorem MB {A P n fn f} {l:List (Nat×CQ)} (h1:P.funcs[n]?=some fn) (h4:∀p∈l,Mt A P p.1 p.2) (h2:AXd P fn f=true:=by kernel_rfl) (h3:AIW fn f=l:=by kernel_rfl):Mt A P n f:=Mt.by h1 h2 h3 h4
def Gv:Go.Shelf.Ren:=⟨λ|29=>364|30=>365|n=>n,λ|0=>0|3=>3|4=>4|9=>195|24=>186|n=>n,λn=>n⟩
theorem KQ:bJ Tryz.prog Gv 338 2 where
 mixed:=by kernel_rfl
 f22:=⟨"slices.Insert[[]loop.example/g00494/impl.Pin,loop.example/g00494/impl.Pin]",by decide,Tryz.func338.trans (congrArg some (by kernel_rfl))⟩
 ov:=λargs w=>Go.run_callFunc_extern Tryz.func364 (by kernel_rfl) (by kernel_rfl) (by kernel_rfl) (by kernel_rfl) args w
 t3:=Tryz.underlying3
 a3:=Tryz.isAgg3
 z3:=Tryz.sizeOf3
 t4:=Tryz.underlying4
 a4:=Tryz.isAgg4
 t24:=Tryz.underlying186
 a24:=Tryz.isAgg186
 z9:=Tryz.sizeOf195
 el:=by kernel_rfl
 gr:=by kernel_rfl
 two:=by decide
theorem AZf:M 338 AGC:=.NK (.inl (.inl ⟨Gv,2,KQ,rfl,rfl⟩))
def Fu:Go.Shelf.Ren:=⟨λ|29=>324|30=>325|n=>n,λ|0=>0|3=>3|4=>4|9=>97|24=>30|n=>n,λn=>n⟩
theorem JI:bJ Tryz.prog Fu 280 10 where
 mixed:=by kernel_rfl
 f22:=⟨"slices.Insert[[]loop.example/g00494/impl.Party,loop.example/g00494/impl.Party]",by decide,Tryz.func280.trans (congrArg some (by kernel_rfl))⟩
 ov:=λargs w=>Go.run_callFunc_extern Tryz.func324 (by kernel_rfl) (by kernel_rfl) (by kernel_rfl) (by kernel_rfl) args w
 t3:=Tryz.underlying3
 a3:=Tryz.isAgg3
 z3:=Tryz.sizeOf3
 t4:=Tryz.underlying4
 a4:=Tryz.isAgg4
 t24:=Tryz.underlying30
 a24:=Tryz.isAgg30
 z9:=Tryz.sizeOf97
 el:=by kernel_rfl
 gr:=by kernel_rfl
 two:=by decide
theorem AZk:M 280 AGW:=.NK (.inl (.inl ⟨Fu,10,JI,rfl,rfl⟩))
def Ft:Go.Shelf.Ren:=⟨λ|29=>327|30=>328|n=>n,λ|0=>0|3=>3|4=>4|9=>179|24=>101|n=>n,λn=>n⟩
theorem JH:bJ Tryz.prog Ft 283 4 where
 mixed:=by kernel_rfl
 f22:=⟨"slices.Insert[[]loop.example/g00494/impl.Entry,loop.example/g00494/impl.Entry]",by decide,Tryz.func283.trans (congrArg some (by kernel_rfl))⟩
 ov:=λargs w=>Go.run_callFunc_extern Tryz.func327 (by kernel_rfl) (by kernel_rfl) (by kernel_rfl) (by kernel_rfl) args w
 t3:=Tryz.underlying3
 a3:=Tryz.isAgg3
 z3:=Tryz.sizeOf3
 t4:=Tryz.underlying4
 a4:=Tryz.isAgg4
 t24:=Tryz.underlying101
 a24:=Tryz.isAgg101
 z9:=Tryz.sizeOf179
 el:=by kernel_rfl
 gr:=by kernel_rfl
 two:=by decide
theorem AZg:M 283 AGO:=.NK (.inl (.inl ⟨Ft,4,JH,rfl,rfl⟩))
def Fq:Go.Shelf.Ren:=⟨λn=>n,λ|0=>0|3=>3|4=>4|9=>179|24=>101|n=>n,λn=>n⟩
theorem JF:pS Tryz.prog Fq 287 4 where
 mixed:=by kernel_rfl
 f24:=⟨"slices.Delete[[]loop.example/g00494/impl.Entry,loop.example/g00494/impl.Entry]",by decide,Tryz.func287.trans (congrArg some (by kernel_rfl))⟩
 t0:=Tryz.underlying0
 a0:=Tryz.isAgg0
 z0:=Tryz.sizeOf0
 t3:=Tryz.underlying3
 a3:=Tryz.isAgg3
 z3:=Tryz.sizeOf3
 t4:=Tryz.underlying4
 a4:=Tryz.isAgg4
 z4:=Tryz.sizeOf4
 t24:=Tryz.underlying101
 a24:=Tryz.isAgg101
 z24:=Tryz.sizeOf101
 z9:=Tryz.sizeOf179
 el:=by kernel_rfl
 gr:=by kernel_rfl
 zo:=by kernel_rfl
theorem AZh:M 287 AGP:=.NK (.inr ⟨Fq,4,JF,rfl,rfl⟩)
def Gu:Go.Shelf.Ren:=⟨λn=>n,λ|0=>0|3=>3|4=>4|9=>195|24=>186|n=>n,λn=>n⟩
theorem KN:pS Tryz.prog Gu 290 2 where
 mixed:=by kernel_rfl
 f24:=⟨"slices.Delete[[]loop.example/g00494/impl.Pin,loop.example/g00494/impl.Pin]",by decide,Tryz.func290.trans (congrArg some (by kernel_rfl))⟩
 t0:=Tryz.underlying0
 a0:=Tryz.isAgg0
 z0:=Tryz.sizeOf0
 t3:=Tryz.underlying3
 a3:=Tryz.isAgg3
 z3:=Tryz.sizeOf3
 t4:=Tryz.underlying4
 a4:=Tryz.isAgg4
 z4:=Tryz.sizeOf4
 t24:=Tryz.underlying186
 a24:=Tryz.isAgg186
 z24:=Tryz.sizeOf186
 z9:=Tryz.sizeOf195
 el:=by kernel_rfl
 gr:=by kernel_rfl
 zo:=by kernel_rfl
theorem AZi:M 290 AGQ:=.NK (.inr ⟨Gu,2,KN,rfl,rfl⟩)
def Fs:Go.Shelf.Ren:=⟨λn=>n,λ|0=>0|3=>3|4=>4|9=>97|24=>30|n=>n,λn=>n⟩
theorem JG:pS Tryz.prog Fs 293 10 where
 mixed:=by kernel_rfl
 f24:=⟨"slices.Delete[[]loop.example/g00494/impl.Party,loop.example/g00494/impl.Party]",by decide,Tryz.func293.trans (congrArg some (by kernel_rfl))⟩
 t0:=Tryz.underlying0
 a0:=Tryz.isAgg0
 z0:=Tryz.sizeOf0
 t3:=Tryz.underlying3
 a3:=Tryz.isAgg3
 z3:=Tryz.sizeOf3
 t4:=Tryz.underlying4
 a4:=Tryz.isAgg4
 z4:=Tryz.sizeOf4
 t24:=Tryz.underlying30
 a24:=Tryz.isAgg30
 z24:=Tryz.sizeOf30
 z9:=Tryz.sizeOf97
 el:=by kernel_rfl
 gr:=by kernel_rfl
 zo:=by kernel_rfl
theorem AZj:M 293 AGR:=.NK (.inr ⟨Fs,10,JG,rfl,rfl⟩)
def rb0:List (Nat×CQ):=[(293,AGR.x),(290,AGQ.x),(287,AGP.x),(283,AGO.x),(280,AGW.x),(338,AGC.x)]
abbrev MM(r:List (Nat×CQ)):Prop:=∀p∈r,Mt (PB Tryz.prog) Tryz.prog p.1 p.2
theorem mb0:MM rb0:=(.and AZj (.and AZi (.and AZh (.and AZg (.and AZk (.and AZf .none))))))
def lb1:List (Nat×GF):=[(5,AQ2),(24,AQ3),(76,AQ4),(28,NA),(25,AGH),(36,Ho),(10,sE),(130,AFk),(192,AK2),(197,AQX),(198,AF2),(131,AQh),(67,AF3),(184,ADb),(118,AYW),(185,AK1)]
def rb1:List (Nat×CQ):=(lX lb1).reverseAux rb0
theorem mb1:MM rb1:=Mt.s mb0 (by kernel_rfl) (by kernel_rfl)
def lb2:List (Nat×GF):=[(119,AYX),(266,ARo),(267,AR7),(193,AYY),(264,AS2),(268,AS3),(194,sF),(122,AS4),(133,l9),(339,AYZ),(317,AYa),(262,AS5),(239,AK3),(263,AS6),(186,AK4),(123,AS7)]
def rb2:List (Nat×CQ):=(lX lb2).reverseAux rb1
theorem mb2:MM rb2:=Mt.s mb1 (by kernel_rfl) (by kernel_rfl)
def lb3:List (Nat×GF):=[(265,AK5),(188,AK6),(189,AS8),(187,AS9),(190,AQH),(191,AQI),(120,AYU),(121,AKz),(57,bz),(270,AQd),(200,AFq),(269,AFr),(199,AFs),(202,AFt),(201,AFu),(132,vk)]
def rb3:List (Nat×CQ):=(lX lb3).reverseAux rb2
theorem mb3:MM rb3:=Mt.s mb2 (by kernel_rfl) (by kernel_rfl)
def lb4:List (Nat×GF):=[(72,AQi),(26,AF7),(29,ARO),(30,lh),(73,AQ5),(77,wD),(74,ASz),(75,ARP),(240,vm),(168,AQm),(107,M9),(134,Zn),(135,AS0),(78,AGm),(166,cA),(105,AK0)]
def rb4:List (Nat×CQ):=(lX lb4).reverseAux rb3
theorem mb4:MM rb4:=Mt.s mb3 (by kernel_rfl) (by kernel_rfl)
def lb5:List (Nat×GF):=[(167,AYV),(106,ADa),(43,lU),(181,AF9),(203,AGA),(137,AQn),(136,AGB),(79,AQo),(299,vz),(242,Pn),(243,AGN),(241,ARQ),(300,ARR),(244,ARS),(169,Re),(245,lj)]
def rb5:List (Nat×CQ):=(lX lb5).reverseAux rb4
theorem mb5:MM rb5:=Mt.s mb4 (by kernel_rfl) (by kernel_rfl)
def lb6:List (Nat×GF):=[(246,AGI),(301,Vu),(247,AQ8),(248,Zo),(170,AQ9),(302,ARA),(254,AGJ),(249,AGK),(250,wF),(303,ARB),(304,ARC),(251,wS),(171,ARV),(305,ARW),(252,AGS),(172,ARX)]
def rb6:List (Nat×CQ):=(lX lb6).reverseAux rb5
theorem mb6:MM rb6:=Mt.s mb5 (by kernel_rfl) (by kernel_rfl)
def lb7:List (Nat×GF):=[(253,ARY),(173,ARZ),(306,ARa),(255,AGT),(174,ARb),(175,ARc),(307,ARd),(361,ARe),(334,ARf),(308,ARg),(362,ARh),(363,ARi),(335,AGU),(336,AGV),(337,wA),(309,ARj)]
def rb7:List (Nat×CQ):=(lX lb7).reverseAux rb6
theorem mb7:MM rb7:=Mt.s mb6 (by kernel_rfl) (by kernel_rfl)
def lb8:List (Nat×GF):=[(309,ARk),(256,ARl),(176,ARm),(108,ARn),(44,lq),(138,wJ),(80,ART),(139,lg),(177,AGL),(258,AFz),(180,AF0),(313,vr),(312,AQu),(311,AGE),(310,ARD),(314,ARE)]
def rb8:List (Nat×CQ):=(lX lb8).reverseAux rb7
theorem mb8:MM rb8:=Mt.s mb7 (by kernel_rfl) (by kernel_rfl)
def lb9:List (Nat×GF):=[(315,ARF),(59,lk),(257,ARG),(178,ARI),(112,ll),(111,wG),(179,AQw),(115,vt),(205,AQx),(204,ASU),(206,ASV),(140,ASW),(81,ASa),(110,ASk),(109,ASl),(45,AGk)]
def rb9:List (Nat×CQ):=(lX lb9).reverseAux rb8
theorem mb9:MM rb9:=Mt.s mb8 (by kernel_rfl) (by kernel_rfl)
def AcN:List (Nat×GF):=[(114,AR8),(116,AF1),(113,AQ0),(46,AR9),(271,ASA),(207,ASB),(47,ASC),(208,ASD),(142,AGd),(141,ASm),(82,AS1),(32,AGg),(27,ASh),(31,ASy),(6,ASi),(62,FN)]
def Aan:List (Nat×CQ):=(lX AcN).reverseAux rb9
theorem Acd:MM Aan:=Mt.s mb9 (by kernel_rfl) (by kernel_rfl)
def AcO:List (Nat×GF):=[(83,Vq),(143,Vt),(84,AF4),(209,Rc),(144,AQj),(145,AF5),(85,AQk),(33,AF6),(50,Rb),(147,lV),(148,vV),(342,AQO),(319,AFd),(273,KB),(282,AFe),(330,vW)]
def Aao:List (Nat×CQ):=(lX AcO).reverseAux Aan
theorem Ace:MM Aao:=Mt.s Acd (by kernel_rfl) (by kernel_rfl)
def AcP:List (Nat×GF):=[(329,AQP),(286,AFf),(237,AFg),(288,vX),(275,HN),(238,Zk),(163,AFh),(326,AQQ),(281,AQR),(224,vY),(340,AFi),(377,vZ),(366,va)]
def Aap:List (Nat×CQ):=(lX AcP).reverseAux Aao
theorem Aaj:MM Aap:=Mt.s Ace (by kernel_rfl) (by kernel_rfl)
theorem AZb:M 366 va:=Mt.at Aaj (by kernel_rfl)
theorem xu:(k:Nat)->Mt (PB Tryz.prog) Tryz.prog 341 (cY k).x|0=>.NK (.inl (.inr ⟨rfl,_,Tryz.func341,by kernel_rfl,by kernel_rfl⟩))|k+1=>MB (f:=(AQC (cY k)).x) Tryz.func341 (l:=[(366,va.x),(341,(cY k).x),(341,(cY k).x)]) (.and AZb (.and (xu k) (.and (xu k) .none)))
theorem AZc:M 341 vd:=xu 7
def Aaq:List (Nat×CQ):=(341,vd.x)::Aap
theorem Acf:MM Aaq:=Mt.and AZc Aaj
def AcQ:List (Nat×GF):=[(318,AQS),(272,AQJ),(210,vR),(164,AFc),(352,AQK),(321,AQL),(343,vS),(320,AQM),(274,AQN),(212,vT),(379,vU),(372,vg)]
def Aar:List (Nat×CQ):=(lX AcQ).reverseAux Aaq
theorem Aak:MM Aar:=Mt.s Acf (by kernel_rfl) (by kernel_rfl)
theorem AZd:M 372 vg:=Mt.at Aak (by kernel_rfl)
theorem xv:(k:Nat)->Mt (PB Tryz.prog) Tryz.prog 353 (cZ k).x|0=>.NK (.inl (.inr ⟨rfl,_,Tryz.func353,by kernel_rfl,by kernel_rfl⟩))|k+1=>MB (f:=(AQD (cZ k)).x) Tryz.func353 (l:=[(372,vg.x),(353,(cZ k).x),(353,(cZ k).x)]) (.and AZd (.and (xv k) (.and (xv k) .none)))
theorem AZe:M 353 vi:=xv 7
def Aas:List (Nat×CQ):=(353,vi.x)::Aar
theorem Acg:MM Aas:=Mt.and AZe Aak
def AcR:List (Nat×GF):=[(322,AQY),(276,AQZ),(213,AFl),(211,AFm),(214,AFn),(215,AFo),(149,AQa),(216,AQb),(150,vj),(91,TY),(146,AFv),(87,AQe),(88,Zl),(89,ve),(90,vf),(35,AQT)]
def Aat:List (Nat×CQ):=(lX AcR).reverseAux Aas
theorem Ach:MM Aat:=Mt.s Acg (by kernel_rfl) (by kernel_rfl)
def AcS:List (Nat×GF):=[(87,AQU),(35,AQV),(86,TZ),(34,lY),(8,AQl),(18,AF8),(218,vn),(219,vq),(154,AQp),(98,MF),(48,Zm),(125,ASc),(61,ASd),(92,AFp),(151,AQc),(93,lW)]
def Aau:List (Nat×CQ):=(lX AcS).reverseAux Aat
theorem Aci:MM Aau:=Mt.s Ach (by kernel_rfl) (by kernel_rfl)
def AcT:List (Nat×GF):=[(37,Vr),(127,AGf),(94,ASn),(38,AGl),(51,AGM),(217,AGF),(182,AGG),(259,AQq),(260,AQr),(316,AGD),(261,AQs),(87,AQW),(102,lZ),(183,AQt),(117,ARJ),(54,ln)]
def Aav:List (Nat×CQ):=(lX AcT).reverseAux Aau
theorem Acj:MM Aav:=Mt.s Aci (by kernel_rfl) (by kernel_rfl)
def AcU:List (Nat×GF):=[(49,wH),(195,AFx),(153,AQy),(97,vu),(96,AQ6),(196,AFw),(152,AQv),(95,AQ1),(323,wN),(278,ARU),(277,wP),(220,Vv),(221,ARw),(222,ARx),(155,Rf),(279,wV)]
def Aaw:List (Nat×CQ):=(lX AcU).reverseAux Aav
theorem Ack:MM Aaw:=Mt.s Acj (by kernel_rfl) (by kernel_rfl)
def AcV:List (Nat×GF):=[(278,ARy),(223,wW),(225,AGZ),(285,wa),(284,ARz),(226,AR0),(227,Vw),(156,AR1),(228,AGa),(289,AR2),(229,wg),(291,wu),(284,AR3),(230,AGb),(292,wv),(284,AR4)]
def Aax:List (Nat×CQ):=(lX AcV).reverseAux Aaw
theorem Acl:MM Aax:=Mt.s Ack (by kernel_rfl) (by kernel_rfl)
def AcW:List (Nat×GF):=[(231,wy),(232,w5),(157,AR5),(294,w6),(284,AR6),(233,AGc),(158,ARp),(295,wT),(284,ARq),(234,ARr),(159,ARs),(296,ARt),(235,AGX),(160,ARu),(161,ARv),(356,AGY)]
def Aay:List (Nat×CQ):=(lX AcW).reverseAux Aax
theorem Acm:MM Aay:=Mt.s Acl (by kernel_rfl) (by kernel_rfl)
def AcX:List (Nat×GF):=[(357,ASG),(331,ASH),(297,ASI),(358,ASJ),(375,w7),(329,ASK),(359,ASL),(332,ASM),(360,w8),(284,ASN),(333,ASO),(298,ASP),(236,ASQ),(162,ASR),(99,ASS),(40,lu)]
def Aaz:List (Nat×CQ):=(lX AcX).reverseAux Aay
theorem Acn:MM Aaz:=Mt.s Acm (by kernel_rfl) (by kernel_rfl)
def AcY:List (Nat×GF):=[(39,AGe),(128,ASE),(42,ASF),(129,ASj),(66,AGi),(63,ASo),(126,AQf),(53,AFy),(64,AQg),(13,AST),(52,ASX),(56,AQz),(55,ASY),(14,ASZ),(65,ASb),(19,AGh)]
def Aa0:List (Nat×CQ):=(lX AcY).reverseAux Aaz
theorem Aco:MM Aa0:=Mt.s Acn (by kernel_rfl) (by kernel_rfl)
def AcZ:List (Nat×GF):=[(16,ASf),(7,ASe),(17,ARH),(58,ARK),(124,ARL),(60,ARM),(15,ARN),(69,AGj),(68,ASu),(20,ASv),(21,AQ7),(22,ASg),(100,ASp),(101,ASq),(103,ASs),(165,ASr)]
def Aa1:List (Nat×CQ):=(lX AcZ).reverseAux Aa0
theorem Acp:MM Aa1:=Mt.s Aco (by kernel_rfl) (by kernel_rfl)
def Aca:List (Nat×GF):=[(104,w9),(41,ASt),(70,ASw),(71,xA),(23,ASx),(4,Is)]
def Acu:List (Nat×CQ):=(lX Aca).reverseAux Aa1
theorem Acq:MM Acu:=Mt.s Acp (by kernel_rfl) (by kernel_rfl)
theorem dN:M 4 Is:=Mt.at Acq (by kernel_rfl)
end Go.Proofs.YtfokjgkkeobaiaaGreat.fnStays
