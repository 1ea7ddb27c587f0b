/-
  The functions that the law FnSurvive reaches are the texts that are shown.
-/
import Derived.Test.YtknihindefnhcaaGreatRows
import Derived.Test.YtknihindefnhcaaGreatLF
import Derived.Test.YtknihindefnhcaaGreatPN
import Derived.JoinedCond
set_option linter.all false
noncomputable section
namespace Go.Proofs.YtknihindefnhcaaGreat.fnSurvive
open Go Lv Lv.P
set_option maxRecDepth 100000
abbrev M(n:Nat)(g:GF):Prop:=Mt (PB Tryz.prog) Tryz.prog n g.x
theorem MB {A P n fn f} {l:List (Nat×CQ)} (h1:P.funcs[n]?=some fn) (h4:∀p∈l,Mt A P p.1 p.2) (h2:AW3 P fn f=true:=by kernel_rfl) (h3:AIA fn f=l:=by kernel_rfl):Mt A P n f:=Mt.by h1 h2 h3 h4
def HO:Go.Shelf.Ren:=⟨λ|29=>365|30=>366|n=>n,λ|0=>0|3=>3|4=>4|9=>178|24=>176|n=>n,λn=>n⟩
theorem LL:db Tryz.prog HO 353 2 where
 mixed:=by kernel_rfl
 f22:=⟨ "slices.Insert[[]loop.example/g00494/impl.Pin,loop.example/g00494/impl.Pin]",by decide,Tryz.func353.trans (congrArg some (by kernel_rfl))⟩
 ov:=λargs w=>Go.run_callFunc_extern Tryz.func365 (by kernel_rfl) (by kernel_rfl) (by kernel_rfl) (by kernel_rfl) args w
 t3:=Tryz.underlying3
 a3:=Tryz.isAgg3
 z3:=Tryz.sizeOf3
 t4:=Tryz.underlying4
 a4:=Tryz.isAgg4
 t24:=Tryz.underlying176
 a24:=Tryz.isAgg176
 z9:=Tryz.sizeOf178
 el:=by kernel_rfl
 gr:=by kernel_rfl
 two:=by decide
theorem AZN:M 353 AFp:=.OW (.inl (.inl ⟨HO,2,LL,rfl,rfl⟩))
def GM:Go.Shelf.Ren:=⟨λ|29=>355|30=>356|n=>n,λ|0=>0|3=>3|4=>4|9=>95|24=>27|n=>n,λn=>n⟩
theorem Jr:db Tryz.prog GM 327 10 where
 mixed:=by kernel_rfl
 f22:=⟨ "slices.Insert[[]loop.example/g00494/impl.Party,loop.example/g00494/impl.Party]",by decide,Tryz.func327.trans (congrArg some (by kernel_rfl))⟩
 ov:=λargs w=>Go.run_callFunc_extern Tryz.func355 (by kernel_rfl) (by kernel_rfl) (by kernel_rfl) (by kernel_rfl) args w
 t3:=Tryz.underlying3
 a3:=Tryz.isAgg3
 z3:=Tryz.sizeOf3
 t4:=Tryz.underlying4
 a4:=Tryz.isAgg4
 t24:=Tryz.underlying27
 a24:=Tryz.isAgg27
 z9:=Tryz.sizeOf95
 el:=by kernel_rfl
 gr:=by kernel_rfl
 two:=by decide
theorem AZO:M 327 AF3:=.OW (.inl (.inl ⟨GM,10,Jr,rfl,rfl⟩))
def GL:Go.Shelf.Ren:=⟨λ|29=>357|30=>358|n=>n,λ|0=>0|3=>3|4=>4|9=>173|24=>99|n=>n,λn=>n⟩
theorem Jq:db Tryz.prog GL 328 4 where
 mixed:=by kernel_rfl
 f22:=⟨ "slices.Insert[[]loop.example/g00494/impl.Entry,loop.example/g00494/impl.Entry]",by decide,Tryz.func328.trans (congrArg some (by kernel_rfl))⟩
 ov:=λargs w=>Go.run_callFunc_extern Tryz.func357 (by kernel_rfl) (by kernel_rfl) (by kernel_rfl) (by kernel_rfl) args w
 t3:=Tryz.underlying3
 a3:=Tryz.isAgg3
 z3:=Tryz.sizeOf3
 t4:=Tryz.underlying4
 a4:=Tryz.isAgg4
 t24:=Tryz.underlying99
 a24:=Tryz.isAgg99
 z9:=Tryz.sizeOf173
 el:=by kernel_rfl
 gr:=by kernel_rfl
 two:=by decide
theorem AZP:M 328 AF4:=.OW (.inl (.inl ⟨GL,4,Jq,rfl,rfl⟩))
def GJ:Go.Shelf.Ren:=⟨λn=>n,λ|0=>0|3=>3|4=>4|9=>173|24=>99|n=>n,λn=>n⟩
theorem Jo:qG Tryz.prog GJ 331 4 where
 mixed:=by kernel_rfl
 f24:=⟨ "slices.Delete[[]loop.example/g00494/impl.Entry,loop.example/g00494/impl.Entry]",by decide,Tryz.func331.trans (congrArg some (by kernel_rfl))⟩
 t0:=Tryz.underlying0
 a0:=Tryz.isAgg0
 z0:=Tryz.sizeOf0
 t3:=Tryz.underlying3
 a3:=Tryz.isAgg3
 z3:=Tryz.sizeOf3
 t4:=Tryz.underlying4
 a4:=Tryz.isAgg4
 z4:=Tryz.sizeOf4
 t24:=Tryz.underlying99
 a24:=Tryz.isAgg99
 z24:=Tryz.sizeOf99
 z9:=Tryz.sizeOf173
 el:=by kernel_rfl
 gr:=by kernel_rfl
 zo:=by kernel_rfl
theorem AZQ:M 331 AGB:=.OW (.inr ⟨GJ,4,Jo,rfl,rfl⟩)
def HN:Go.Shelf.Ren:=⟨λn=>n,λ|0=>0|3=>3|4=>4|9=>178|24=>176|n=>n,λn=>n⟩
theorem LI:qG Tryz.prog HN 333 2 where
 mixed:=by kernel_rfl
 f24:=⟨ "slices.Delete[[]loop.example/g00494/impl.Pin,loop.example/g00494/impl.Pin]",by decide,Tryz.func333.trans (congrArg some (by kernel_rfl))⟩
 t0:=Tryz.underlying0
 a0:=Tryz.isAgg0
 z0:=Tryz.sizeOf0
 t3:=Tryz.underlying3
 a3:=Tryz.isAgg3
 z3:=Tryz.sizeOf3
 t4:=Tryz.underlying4
 a4:=Tryz.isAgg4
 z4:=Tryz.sizeOf4
 t24:=Tryz.underlying176
 a24:=Tryz.isAgg176
 z24:=Tryz.sizeOf176
 z9:=Tryz.sizeOf178
 el:=by kernel_rfl
 gr:=by kernel_rfl
 zo:=by kernel_rfl
theorem AZR:M 333 AGC:=.OW (.inr ⟨HN,2,LI,rfl,rfl⟩)
def GK:Go.Shelf.Ren:=⟨λn=>n,λ|0=>0|3=>3|4=>4|9=>95|24=>27|n=>n,λn=>n⟩
theorem Jp:qG Tryz.prog GK 336 10 where
 mixed:=by kernel_rfl
 f24:=⟨ "slices.Delete[[]loop.example/g00494/impl.Party,loop.example/g00494/impl.Party]",by decide,Tryz.func336.trans (congrArg some (by kernel_rfl))⟩
 t0:=Tryz.underlying0
 a0:=Tryz.isAgg0
 z0:=Tryz.sizeOf0
 t3:=Tryz.underlying3
 a3:=Tryz.isAgg3
 z3:=Tryz.sizeOf3
 t4:=Tryz.underlying4
 a4:=Tryz.isAgg4
 z4:=Tryz.sizeOf4
 t24:=Tryz.underlying27
 a24:=Tryz.isAgg27
 z24:=Tryz.sizeOf27
 z9:=Tryz.sizeOf95
 el:=by kernel_rfl
 gr:=by kernel_rfl
 zo:=by kernel_rfl
theorem AZS:M 336 AGD:=.OW (.inr ⟨GK,10,Jp,rfl,rfl⟩)
def rb0:List (Nat×CQ):=[(336,AGD.x),(333,AGC.x),(331,AGB.x),(328,AF4.x),(327,AF3.x),(353,AFp.x)]
abbrev MM(r:List (Nat×CQ)):Prop:=∀p∈r,Mt (PB Tryz.prog) Tryz.prog p.1 p.2
theorem mb0:MM rb0:=(.and AZS (.and AZR (.and AZQ (.and AZP (.and AZO (.and AZN .none))))))
def lb1:List (Nat×GF):=[(4,AQV),(21,AQW),(24,AQf),(64,AFn),(23,Er),(61,xK),(42,H6),(92,mT),(101,AFR),(182,AKL),(299,APy),(251,mW),(247,AQC),(185,AFg),(152,AC9),(93,AX7)]
def rb1:List (Nat×CQ):=(lX lb1).reverseAux rb0
theorem mb1:MM rb1:=Mt.s mb0 (by kernel_rfl) (by kernel_rfl)
def lb2:List (Nat×GF):=[(153,AKK),(94,AX8),(245,ARN),(230,ARb),(183,AR4),(225,ASX),(246,ASZ),(184,se),(116,ASa),(71,eS),(342,AX9),(294,AYA),(223,ASb),(160,ADA),(224,AKM),(154,ADB)]
def rb2:List (Nat×CQ):=(lX lb2).reverseAux rb1
theorem mb2:MM rb2:=Mt.s mb1 (by kernel_rfl) (by kernel_rfl)
def lb3:List (Nat×GF):=[(117,ASc),(226,AKN),(156,AKO),(157,AKP),(155,ASd),(158,AC5),(159,AC6),(95,AX5),(96,AC7),(40,eQ),(298,AP6),(244,AFW),(132,AFX),(181,AFY),(134,AFZ),(133,AFa)]
def rb3:List (Nat×CQ):=(lX lb3).reverseAux rb2
theorem mb3:MM rb3:=Mt.s mb2 (by kernel_rfl) (by kernel_rfl)
def lb4:List (Nat×GF):=[(179,xD),(119,AFh),(60,AQG),(70,NJ),(26,ma),(29,ON),(10,xl),(120,AFr),(161,xF),(102,AQH),(49,OL),(129,bn),(186,AR6),(121,AGL),(97,eR),(41,AKJ)]
def rb4:List (Nat×CQ):=(lX lb4).reverseAux rb3
theorem mb4:MM rb4:=Mt.s mb3 (by kernel_rfl) (by kernel_rfl)
def lb5:List (Nat×GF):=[(98,AX6),(43,AC8),(14,mS),(115,AFi),(73,mX),(131,AQI),(130,AFj),(68,mY),(189,mZ),(163,RF),(164,AFs),(162,AQg),(227,AQh),(165,AQi),(103,TF),(166,bq)]
def rb5:List (Nat×CQ):=(lX lb5).reverseAux rb4
theorem mb5:MM rb5:=Mt.s mb4 (by kernel_rfl) (by kernel_rfl)
def lb6:List (Nat×GF):=[(167,AFt),(228,XK),(168,AQ4),(169,XJ),(104,AQ5),(229,AQ6),(175,AF5),(170,AF6),(171,xP),(231,AQ7),(232,AQ8),(172,xQ),(105,AQ9),(233,ARA),(173,AF7),(106,ARB)]
def rb6:List (Nat×CQ):=(lX lb6).reverseAux rb5
theorem mb6:MM rb6:=Mt.s mb5 (by kernel_rfl) (by kernel_rfl)
def lb7:List (Nat×GF):=[(174,ARC),(107,ARD),(234,ARE),(176,AF8),(108,ARF),(109,ARG),(235,ARH),(343,ARI),(295,ARJ),(236,ARK),(344,ARL),(345,ARM),(296,AF1),(297,AF2),(252,bu),(237,AQz)]
def rb7:List (Nat×CQ):=(lX lb7).reverseAux rb6
theorem mb7:MM rb7:=Mt.s mb6 (by kernel_rfl) (by kernel_rfl)
def lb8:List (Nat×GF):=[(237,AQ0),(177,AQ1),(110,AQ2),(50,AQ3),(17,mc),(46,xV),(122,xW),(100,bk),(111,AFu),(180,AFk),(114,AFl),(241,xI),(240,AQP),(239,AFm),(238,AQQ),(242,AQR)]
def rb8:List (Nat×CQ):=(lX lb8).reverseAux rb7
theorem mb8:MM rb8:=Mt.s mb7 (by kernel_rfl) (by kernel_rfl)
def lb9:List (Nat×GF):=[(243,AQS),(58,xJ),(178,AQj),(112,AQk),(52,mb),(51,xN),(113,AP9),(55,xE),(249,AQA),(248,ARc),(250,ARd),(187,ARe),(123,AGG),(48,ASQ),(47,ASR),(16,me)]
def rb9:List (Nat×CQ):=(lX lb9).reverseAux rb8
theorem mb9:MM rb9:=Mt.s mb8 (by kernel_rfl) (by kernel_rfl)
def AcN:List (Nat×GF):=[(54,ARg),(56,AFc),(53,AQT),(18,AGH),(99,ARh),(44,ARi),(19,AGI),(45,ASD),(15,AGN),(7,AGP),(124,AR7),(63,AGM),(62,AR8),(22,AR9),(125,AR3),(65,xk)]
def Aaj:List (Nat×CQ):=(lX AcN).reverseAux rb9
theorem Acd:MM Aaj:=Mt.s mb9 (by kernel_rfl) (by kernel_rfl)
def AcO:List (Nat×GF):=[(66,AQa),(188,AFo),(190,AQX),(191,AQY),(126,AQZ),(127,AQn),(253,AFw),(192,AQo),(255,AFx),(300,AQp),(254,AFy),(193,AQq),(257,AFz),(301,AQr),(256,AF0),(194,AQs)]
def Aak:List (Nat×CQ):=(lX AcO).reverseAux Aaj
theorem Ace:MM Aak:=Mt.s Acd (by kernel_rfl) (by kernel_rfl)
def AcP:List (Nat×GF):=[(195,AQt),(128,AQu),(67,AQv),(69,ASI),(25,ASJ),(72,ASA),(27,ASB),(135,xL),(74,ASW),(75,xM),(302,ASK),(303,ASL),(258,ASM),(196,ASN),(136,ASO),(76,ASP)]
def Aal:List (Nat×CQ):=(lX AcP).reverseAux Aak
theorem Acf:MM Aal:=Mt.s Ace (by kernel_rfl) (by kernel_rfl)
def AcQ:List (Nat×GF):=[(28,AR5),(9,ASC),(5,ASY),(32,F7),(77,bg),(81,Uu),(78,mU),(79,wa),(197,Uv),(309,APo),(264,AFM),(202,K3),(259,AFN),(305,wg),(304,APp),(260,AFO)]
def Aam:List (Nat×CQ):=(lX AcQ).reverseAux Aal
theorem Acg:MM Aam:=Mt.s Acf (by kernel_rfl) (by kernel_rfl)
def AcR:List (Nat×GF):=[(198,AFP),(261,wu),(204,Hy),(199,mV),(137,APq),(306,APr),(262,APs),(200,wv),(307,AFQ),(362,wy),(346,w5)]
def Aan:List (Nat×CQ):=(lX AcR).reverseAux Aam
theorem Aad:MM Aan:=Mt.s Acg (by kernel_rfl) (by kernel_rfl)
theorem AZJ:M 346 w5:=Mt.at Aad (by kernel_rfl)
theorem yf:(k:Nat)->Mt (PB Tryz.prog) Tryz.prog 308 (fK k).x|0=>.OW (.inl (.inr ⟨rfl,_,Tryz.func308,by kernel_rfl,by kernel_rfl⟩))|k+1=>MB (f:=(APe (fK k)).x) Tryz.func308 (l:=[(346,w5.x),(308,(fK k).x),(308,(fK k).x)]) (.and AZJ (.and (yf k) (.and (yf k) .none)))
theorem AZK:M 308 w6:=yf 7
def Aao:List (Nat×CQ):=(308,w6.x)::Aan
theorem Ach:MM Aao:=Mt.and AZK Aad
def AcS:List (Nat×GF):=[(263,APt),(201,APi),(139,wT),(138,APj),(319,APk),(266,APl),(310,wV),(265,APm),(203,APn),(141,AFL),(364,wW),(352,w9)]
def Aap:List (Nat×CQ):=(lX AcS).reverseAux Aao
theorem Aae:MM Aap:=Mt.s Ach (by kernel_rfl) (by kernel_rfl)
theorem AZL:M 352 w9:=Mt.at Aae (by kernel_rfl)
theorem yg:(k:Nat)->Mt (PB Tryz.prog) Tryz.prog 320 (fN k).x|0=>.OW (.inl (.inr ⟨rfl,_,Tryz.func320,by kernel_rfl,by kernel_rfl⟩))|k+1=>MB (f:=(APf (fN k)).x) Tryz.func320 (l:=[(352,w9.x),(320,(fN k).x),(320,(fN k).x)]) (.and AZL (.and (yg k) (.and (yg k) .none)))
theorem AZM:M 320 xA:=yg 7
def Aaq:List (Nat×CQ):=(320,xA.x)::Aap
theorem Aci:MM Aaq:=Mt.and AZM Aae
def AcT:List (Nat×GF):=[(267,APz),(205,AP0),(142,AFS),(140,AP1),(143,AFT),(144,AFU),(80,AP2),(145,AP3),(82,xB),(30,XI),(83,bj),(31,AFV),(84,AP4),(33,xC),(11,AP5),(91,ARf)]
def Aar:List (Nat×CQ):=(lX AcT).reverseAux Aaq
theorem Acj:MM Aar:=Mt.s Aci (by kernel_rfl) (by kernel_rfl)
def AcU:List (Nat×GF):=[(39,ASS),(13,AST),(146,AQl),(273,bh),(210,AFd),(206,AFe),(268,AQc),(213,bm),(269,AQd),(321,AQE),(277,xH),(322,AFq),(270,AQM),(323,AFb),(272,APx),(271,AQN)]
def Aas:List (Nat×CQ):=(lX AcU).reverseAux Aar
theorem Ack:MM Aas:=Mt.s Acj (by kernel_rfl) (by kernel_rfl)
def AcV:List (Nat×GF):=[(207,AQO),(272,AP7),(274,w7),(275,w8),(208,APu),(272,APv),(208,APw),(147,AQm),(86,xO),(85,AFv),(211,AQL),(149,AQB),(89,AFf),(88,AQb),(209,AQK),(148,AP8)]
def Aat:List (Nat×CQ):=(lX AcV).reverseAux Aas
theorem Acl:MM Aat:=Mt.s Ack (by kernel_rfl) (by kernel_rfl)
def AcW:List (Nat×GF):=[(87,AQU),(212,AQD),(276,xG),(214,AQJ),(150,OM),(354,xX),(325,ARS),(324,xY),(278,XL),(279,ART),(280,ARU),(215,TG),(326,xZ),(325,ARV),(281,xc),(282,AGE)]
def Aau:List (Nat×CQ):=(lX AcW).reverseAux Aat
theorem Acm:MM Aau:=Mt.s Acl (by kernel_rfl) (by kernel_rfl)
def AcX:List (Nat×GF):=[(330,xd),(329,ARW),(283,ARX),(284,XM),(216,ARY),(285,AGF),(332,ARZ),(286,xe),(334,xg),(329,ARa),(287,AF9),(335,xR),(329,ARO),(288,xS),(289,xT),(217,ARP)]
def Aav:List (Nat×CQ):=(lX AcX).reverseAux Aau
theorem Acn:MM Aav:=Mt.s Acm (by kernel_rfl) (by kernel_rfl)
def AcY:List (Nat×GF):=[(337,xU),(329,ARQ),(290,AGA),(218,ARR),(338,xh),(329,ARj),(291,ARk),(219,ARl),(339,ARm),(292,AGJ),(220,ARn),(221,ARo),(369,AGK),(370,ARp),(359,ARq),(340,ARr)]
def Aaw:List (Nat×CQ):=(lX AcY).reverseAux Aav
theorem Aco:MM Aaw:=Mt.s Acn (by kernel_rfl) (by kernel_rfl)
def AcZ:List (Nat×GF):=[(371,ARs),(377,xi),(304,ARt),(372,ARu),(360,ARv),(373,xj),(329,ARw),(361,ARx),(341,ARy),(293,ARz),(222,AR0),(151,AR1),(90,AR2),(34,AGO),(35,ASE),(37,ASF)]
def Aax:List (Nat×CQ):=(lX AcZ).reverseAux Aaw
theorem Acp:MM Aax:=Mt.s Aco (by kernel_rfl) (by kernel_rfl)
def Aca:List (Nat×GF):=[(36,ASG),(38,AQF),(12,ASH),(6,ASU),(57,AQw),(118,AQx),(59,AQy),(20,AQe),(8,ASV),(3,H5)]
def Acs:List (Nat×CQ):=(lX Aca).reverseAux Aax
theorem Acq:MM Acs:=Mt.s Acp (by kernel_rfl) (by kernel_rfl)
theorem Zs:M 3 H5:=Mt.at Acq (by kernel_rfl)
end Go.Proofs.YtknihindefnhcaaGreat.fnSurvive
