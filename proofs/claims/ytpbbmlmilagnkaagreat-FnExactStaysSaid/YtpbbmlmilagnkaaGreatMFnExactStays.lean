/-
  The functions that the law FnExactStays reaches are the texts that are shown.
-/
import Derived.Test.YtpbbmlmilagnkaaGreatRows
import Derived.Test.YtpbbmlmilagnkaaGreatKG
import Derived.Test.YtpbbmlmilagnkaaGreatLF
import Derived.Test.YtpbbmlmilagnkaaGreatLvE
import Derived.Test.YtpbbmlmilagnkaaGreatPO
import Derived.WalkKit
import Derived.OpenShut
import Derived.JoinedCond
noncomputable section
set_option linter.unusedVariables false
set_option linter.unusedSimpArgs false
set_option linter.unusedSectionVars false
open List renaming mem_cons->Ac
namespace Go.Proofs.YtpbbmlmilagnkaaGreat.fnExactStays
open Go Lv Lv.P
set_option maxRecDepth 100000
abbrev M(n:Nat)(g:GF):Prop:=Mt (PB Tryz.prog) Tryz.prog n g.x
theorem MB {A P n fn f} {l:List (Nat×Bz)} (h1:P.funcs[n]?=some fn) (h4:∀p∈l,Mt A P p.1 p.2) (h2:ANp P fn f=true:=by kernel_rfl) (h3:rZ fn f=l:=by kernel_rfl):Mt A P n f:=Mt.by h1 h2 h3 h4
def oqN(P:Program):List (Nat×Bz)->Bool| []=>true|p::l=>okO P p&&oqN P l
def cqN(P:Program):List (Nat×Bz)->List (List (Nat×Bz))| []=>[]|p::l=>caO P p::cqN P l
def ex1(r:List (Nat×Bz))(q:Nat×Bz):Nat×Bz:=match fnd q.1 (Dp q.2) r with|some x=>(q.1,x)|none=>(q.1+1,q.2)
def eqN(P:Program):List (Nat×Bz)->List (Nat×Bz)->List (List (Nat×Bz))| [],_=>[]|p::l,r=>(caO P p).map (ex1 r)::eqN P l (p::r)
theorem mfx{α:Type}{f:α->α}:∀{l:List α},l=l.map f->∀x∈l,x=f x
 |a::l,h,x,hx=>by
  injection h with h1 h2;rcases Ac.1 hx with rfl|hx
  .exact h1
  .exact mfx h2 x hx
theorem Mts:∀{A:Nat->Nat->List Md->Prop} {P:Program} {l r:List (Nat×Bz)},(∀p∈r,Mt A P p.1 p.2)->oqN P l=true->cqN P l=eqN P l r->∀p∈l.reverseAux r,Mt A P p.1 p.2
 |_,_,[],_,h,_,_=>h|A,P,p::l,r,h,ho,hc=>by
  unfold oqN at ho;unfold cqN eqN at hc;rw[Bool.and_eq_true]at ho;obtain⟨h1,h3⟩:=ho;injection hc with hc1 hc2;refine Mts (l:=l) (r:=p::r) (fun q hq=>?_) h3 hc2;rcases Ac.1 hq with rfl|hq
  .unfold okO at h1;unfold caO at hc1;cases hf:P.funcs[q.1]? with
   |none=>simp[hf]at h1|some fn=>
    simp only[hf]at h1 hc1;refine Mt.by hf h1 rfl fun t ht=>?_
    have e:=mfx hc1 t ht;unfold ex1 at e;cases hx:fnd t.1 (Dp t.2) r with
    |none=>
     rw[hx]at e;have:=congrArg Prod.fst e;simp at this
    |some x=>
     rw[hx]at e;rw[e];exact h _ (nE hx)
  .exact h q hq
def CM:Go.Shelf.Ren:=⟨fun|29=>349|30=>350|n=>n,fun|0=>0|3=>3|4=>4|9=>165|24=>38|n=>n,fun n=>n⟩
theorem DP:Ow Tryz.prog CM 316 10 where
 mixed:=by kernel_rfl
 f22:=⟨"slices.Insert[[]loop.example/g00494/impl.Party,loop.example/g00494/impl.Party]",by decide,Tryz.func316.trans (congrArg some (by kernel_rfl))⟩
 ov:=fun args w=>Go.run_callFunc_extern Tryz.func349 (by kernel_rfl) (by kernel_rfl) (by kernel_rfl) (by kernel_rfl) args w
 t3:=Tryz.underlying3
 a3:=Tryz.isAgg3
 z3:=Tryz.sizeOf3
 t4:=Tryz.underlying4
 a4:=Tryz.isAgg4
 t24:=Tryz.underlying38
 a24:=Tryz.isAgg38
 z9:=Tryz.sizeOf165
 el:=by kernel_rfl
 gr:=by kernel_rfl
 two:=by decide
theorem ACD:M 316 db:=.Hh (.inl (.inl ⟨CM,10,DP,rfl,rfl⟩))
def CL:Go.Shelf.Ren:=⟨fun|29=>352|30=>353|n=>n,fun|0=>0|3=>3|4=>4|9=>209|24=>154|n=>n,fun n=>n⟩
theorem DO:Ow Tryz.prog CL 319 4 where
 mixed:=by kernel_rfl
 f22:=⟨"slices.Insert[[]loop.example/g00494/impl.Entry,loop.example/g00494/impl.Entry]",by decide,Tryz.func319.trans (congrArg some (by kernel_rfl))⟩
 ov:=fun args w=>Go.run_callFunc_extern Tryz.func352 (by kernel_rfl) (by kernel_rfl) (by kernel_rfl) (by kernel_rfl) args w
 t3:=Tryz.underlying3
 a3:=Tryz.isAgg3
 z3:=Tryz.sizeOf3
 t4:=Tryz.underlying4
 a4:=Tryz.isAgg4
 t24:=Tryz.underlying154
 a24:=Tryz.isAgg154
 z9:=Tryz.sizeOf209
 el:=by kernel_rfl
 gr:=by kernel_rfl
 two:=by decide
theorem ACE:M 319 de:=.Hh (.inl (.inl ⟨CL,4,DO,rfl,rfl⟩))
def CJ:Go.Shelf.Ren:=⟨fun n=>n,fun|0=>0|3=>3|4=>4|9=>209|24=>154|n=>n,fun n=>n⟩
theorem DM:SP Tryz.prog CJ 323 4 where
 mixed:=by kernel_rfl
 f24:=⟨"slices.Delete[[]loop.example/g00494/impl.Entry,loop.example/g00494/impl.Entry]",by decide,Tryz.func323.trans (congrArg some (by kernel_rfl))⟩
 t0:=Tryz.underlying0
 a0:=Tryz.isAgg0
 z0:=Tryz.sizeOf0
 t3:=Tryz.underlying3
 a3:=Tryz.isAgg3
 z3:=Tryz.sizeOf3
 t4:=Tryz.underlying4
 a4:=Tryz.isAgg4
 z4:=Tryz.sizeOf4
 t24:=Tryz.underlying154
 a24:=Tryz.isAgg154
 z24:=Tryz.sizeOf154
 z9:=Tryz.sizeOf209
 el:=by kernel_rfl
 gr:=by kernel_rfl
 zo:=by kernel_rfl
theorem ACA:M 323 dV:=.Hh (.inr ⟨CJ,4,DM,rfl,rfl⟩)
def Ce:Go.Shelf.Ren:=⟨fun n=>n,fun|0=>0|3=>3|4=>4|9=>237|24=>216|n=>n,fun n=>n⟩
theorem Dl:SP Tryz.prog Ce 326 2 where
 mixed:=by kernel_rfl
 f24:=⟨"slices.Delete[[]loop.example/g00494/impl.Pin,loop.example/g00494/impl.Pin]",by decide,Tryz.func326.trans (congrArg some (by kernel_rfl))⟩
 t0:=Tryz.underlying0
 a0:=Tryz.isAgg0
 z0:=Tryz.sizeOf0
 t3:=Tryz.underlying3
 a3:=Tryz.isAgg3
 z3:=Tryz.sizeOf3
 t4:=Tryz.underlying4
 a4:=Tryz.isAgg4
 z4:=Tryz.sizeOf4
 t24:=Tryz.underlying216
 a24:=Tryz.isAgg216
 z24:=Tryz.sizeOf216
 z9:=Tryz.sizeOf237
 el:=by kernel_rfl
 gr:=by kernel_rfl
 zo:=by kernel_rfl
theorem ACB:M 326 dW:=.Hh (.inr ⟨Ce,2,Dl,rfl,rfl⟩)
def CK:Go.Shelf.Ren:=⟨fun n=>n,fun|0=>0|3=>3|4=>4|9=>165|24=>38|n=>n,fun n=>n⟩
theorem DN:SP Tryz.prog CK 329 10 where
 mixed:=by kernel_rfl
 f24:=⟨"slices.Delete[[]loop.example/g00494/impl.Party,loop.example/g00494/impl.Party]",by decide,Tryz.func329.trans (congrArg some (by kernel_rfl))⟩
 t0:=Tryz.underlying0
 a0:=Tryz.isAgg0
 z0:=Tryz.sizeOf0
 t3:=Tryz.underlying3
 a3:=Tryz.isAgg3
 z3:=Tryz.sizeOf3
 t4:=Tryz.underlying4
 a4:=Tryz.isAgg4
 z4:=Tryz.sizeOf4
 t24:=Tryz.underlying38
 a24:=Tryz.isAgg38
 z24:=Tryz.sizeOf38
 z9:=Tryz.sizeOf165
 el:=by kernel_rfl
 gr:=by kernel_rfl
 zo:=by kernel_rfl
theorem ACC:M 329 dX:=.Hh (.inr ⟨CK,10,DN,rfl,rfl⟩)
def Cf:Go.Shelf.Ren:=⟨fun|29=>375|30=>376|n=>n,fun|0=>0|3=>3|4=>4|9=>237|24=>216|n=>n,fun n=>n⟩
theorem Dn:Ow Tryz.prog Cf 343 2 where
 mixed:=by kernel_rfl
 f22:=⟨"slices.Insert[[]loop.example/g00494/impl.Pin,loop.example/g00494/impl.Pin]",by decide,Tryz.func343.trans (congrArg some (by kernel_rfl))⟩
 ov:=fun args w=>Go.run_callFunc_extern Tryz.func375 (by kernel_rfl) (by kernel_rfl) (by kernel_rfl) (by kernel_rfl) args w
 t3:=Tryz.underlying3
 a3:=Tryz.isAgg3
 z3:=Tryz.sizeOf3
 t4:=Tryz.underlying4
 a4:=Tryz.isAgg4
 t24:=Tryz.underlying216
 a24:=Tryz.isAgg216
 z9:=Tryz.sizeOf237
 el:=by kernel_rfl
 gr:=by kernel_rfl
 two:=by decide
theorem AB9:M 343 dU:=.Hh (.inl (.inl ⟨Cf,2,Dn,rfl,rfl⟩))
def rb0:List (Nat×Bz):=[(343,dU.x),(329,dX.x),(326,dW.x),(323,dV.x),(319,de.x),(316,db.x)]
abbrev MM(r:List (Nat×Bz)):Prop:=∀p∈r,Mt (PB Tryz.prog) Tryz.prog p.1 p.2
theorem mb0:MM rb0:=(.and AB9 (.and ACC (.and ACB (.and ACA (.and ACE (.and ACD .none))))))
def lb1:List (Nat×GF):=[(82,xH),(79,ALf),(80,ALg),(201,ALh),(335,ALk),(283,AMD),(202,AMK),(144,AMN),(81,AMO),(26,AMg),(83,AMh),(27,AMi),(28,AGA),(7,AGB),(125,AMX),(65,AMY)]
def rb1:List (Nat×Bz):=(lX lb1).reverseAux rb0
theorem mb1:MM rb1:=Mts mb0 (by kernel_rfl) (by kernel_rfl)
def lb2:List (Nat×GF):=[(16,AMZ),(98,xI),(95,AMj),(156,AMk),(96,AMl),(222,AMm),(289,AMn),(223,AMo),(360,AMp),(337,AMq),(290,AMr),(224,AMs),(157,AMt),(97,ALa),(41,ALb),(99,ALc)]
def rb2:List (Nat×Bz):=(lX lb2).reverseAux rb1
theorem mb2:MM rb2:=Mts mb1 (by kernel_rfl) (by kernel_rfl)
def lb3:List (Nat×GF):=[(42,ALd),(100,ALe),(43,AF8),(9,AF9),(134,AMa),(70,AMb),(18,AMc),(31,Ij),(126,xF),(205,xG),(146,zf),(206,cy),(147,zg),(244,cz),(311,nL),(303,nM)]
def rb3:List (Nat×Bz):=(lX lb3).reverseAux rb2
theorem mb3:MM rb3:=Mts mb2 (by kernel_rfl) (by kernel_rfl)
def lb4:List (Nat×GF):=[(261,zh),(286,nN),(312,nO),(262,Rc),(185,nP),(220,zi),(359,zj),(336,zk),(284,nQ),(203,c9),(285,nR),(207,nS),(186,nU),(287,AUn),(209,dB),(210,zl)]
def rb4:List (Nat×Bz):=(lX lb4).reverseAux rb3
theorem mb4:MM rb4:=Mts mb3 (by kernel_rfl) (by kernel_rfl)
def lb5:List (Nat×GF):=[(208,nV),(211,zm),(212,zn),(148,zp),(149,cw),(85,V1),(88,nI),(86,zd),(150,ze),(87,nJ),(30,nK),(127,nx),(175,ALw),(176,ALx),(128,ALy),(66,ALz)]
def rb5:List (Nat×Bz):=(lX lb5).reverseAux rb4
theorem mb5:MM rb5:=Mts mb4 (by kernel_rfl) (by kernel_rfl)
def lb6:List (Nat×GF):=[(204,dN),(145,AAY),(84,JC),(299,dT),(246,Ky),(247,n9),(245,AAg),(300,AAh),(248,AAi),(177,Lw),(249,V7),(250,oA),(301,PN),(251,AAZ),(252,Rh),(178,AAa)]
def rb6:List (Nat×Bz):=(lX lb6).reverseAux rb5
theorem mb6:MM rb6:=Mts mb5 (by kernel_rfl) (by kernel_rfl)
def lb7:List (Nat×GF):=[(302,AAb),(258,nz),(253,n0),(254,dP),(304,AAc),(305,AAd),(255,dQ),(179,AAl),(306,AAm),(256,oB),(180,AAn),(257,AAo),(181,AAp),(307,AAq),(259,oC),(182,AAr)]
def rb7:List (Nat×Bz):=(lX lb7).reverseAux rb6
theorem mb7:MM rb7:=Mts mb6 (by kernel_rfl) (by kernel_rfl)
def lb8:List (Nat×GF):=[(183,AAs),(308,AAt),(378,AAu),(345,AAv),(309,AAw),(379,AAx),(380,AAy),(346,oD),(347,oE),(288,n6),(310,AAz),(310,AA0),(260,AA1),(184,AA2),(129,AA3),(67,oF)]
def rb8:List (Nat×Bz):=(lX lb8).reverseAux rb7
theorem mb8:MM rb8:=Mts mb7 (by kernel_rfl) (by kernel_rfl)
def lb9:List (Nat×GF):=[(131,n8),(130,AMG),(187,AMH),(132,AMI),(68,AMJ),(133,AMW),(69,AMR),(17,AMS),(104,FU),(135,V2),(47,PM),(160,V4),(161,dG),(263,Lu),(363,zx),(339,nW)]
def rb9:List (Nat×Bz):=(lX lb9).reverseAux rb8
theorem mb9:MM rb9:=Mts mb8 (by kernel_rfl) (by kernel_rfl)
def AU4:List (Nat×GF):=[(292,HD),(318,nX),(355,dH),(354,zy),(322,nY),(281,nZ),(324,dI),(294,FD),(282,Rf),(198,na),(351,zz),(317,z5),(268,dJ),(361,nc),(399,dK),(388,Rg)]
def AUt:List (Nat×Bz):=(lX AU4).reverseAux rb9
theorem AUr:MM AUt:=Mts mb9 (by kernel_rfl) (by kernel_rfl)
theorem AB7:M 388 Rg:=Mt.at AUr (by kernel_rfl)
theorem OD:(k:Nat)->Mt (PB Tryz.prog) Tryz.prog 362 (Pt k).x|0=>.Hh (.inl (.inr ⟨rfl,_,Tryz.func362,by kernel_rfl,by kernel_rfl⟩))|k+1=>MB (f:=(zc (Pt k)).x) Tryz.func362 (l:=[(388,Rg.x),(362,(Pt k).x),(362,(Pt k).x)]) (.and AB7 (.and (OD k) (.and (OD k) .none)))
theorem AB8:M 362 V5:=OD 7
def AUu:List (Nat×Bz):=(362,V5.x)::AUt
theorem AVE:MM AUu:=Mt.and AB8 AUr
def AU5:List (Nat×GF):=[(338,z6),(291,z7),(227,nd),(199,ng),(373,zq),(341,zr),(364,dC),(340,zt),(293,zu),(229,dE),(401,dF),(394,Re)]
def AUv:List (Nat×Bz):=(lX AU5).reverseAux AUu
theorem AUs:MM AUv:=Mts AVE (by kernel_rfl) (by kernel_rfl)
theorem AB5:M 394 Re:=Mt.at AUs (by kernel_rfl)
theorem OC:(k:Nat)->Mt (PB Tryz.prog) Tryz.prog 374 (Ps k).x|0=>.Hh (.inl (.inr ⟨rfl,_,Tryz.func374,by kernel_rfl,by kernel_rfl⟩))|k+1=>MB (f:=(zb (Ps k)).x) Tryz.func374 (l:=[(394,Re.x),(374,(Ps k).x),(374,(Ps k).x)]) (.and AB5 (.and (OC k) (.and (OC k) .none)))
theorem AB6:M 374 V3:=OC 7
def AUw:List (Nat×Bz):=(374,V3.x)::AUv
theorem AVF:MM AUw:=Mt.and AB6 AUs
def AU6:List (Nat×GF):=[(342,zw),(295,AAE),(230,AAF),(228,nk),(231,AAG),(232,AAH),(162,AAI),(233,AAJ),(163,dL),(102,V6),(106,nn),(103,AAK),(164,AAL),(105,nq),(46,nr),(158,dO)]
def AUx:List (Nat×Bz):=(lX AU6).reverseAux AUw
theorem AVG:MM AUx:=Mts AVF (by kernel_rfl) (by kernel_rfl)
def AU7:List (Nat×GF):=[(136,ny),(188,AL0),(189,AL1),(137,AL2),(71,AL3),(225,dR),(226,dS),(159,AAe),(101,Ik),(348,dZ),(314,AAj),(313,da),(264,PO),(265,AAk),(266,ABB),(190,Lx)]
def AUy:List (Nat×Bz):=(lX AU7).reverseAux AUx
theorem AVH:MM AUy:=Mts AVG (by kernel_rfl) (by kernel_rfl)
def AU8:List (Nat×GF):=[(315,dh),(314,ABC),(267,di),(269,oI),(321,dj),(320,ABD),(270,ABE),(271,PQ),(191,ABF),(272,oJ),(325,ABG),(273,dk),(327,dm),(320,ABH),(274,oK),(328,dn)]
def AUz:List (Nat×Bz):=(lX AU8).reverseAux AUy
theorem AVI:MM AUz:=Mts AVH (by kernel_rfl) (by kernel_rfl)
def AU9:List (Nat×GF):=[(320,ABI),(275,dp),(276,dq),(192,ABJ),(330,dt),(320,ABK),(277,oM),(193,ABL),(331,dg),(320,AA4),(278,AA5),(194,AA6),(332,AA7),(279,oG),(195,AA8),(196,AA9)]
def AU0:List (Nat×Bz):=(lX AU9).reverseAux AUz
theorem AVJ:MM AU0:=Mts AVI (by kernel_rfl) (by kernel_rfl)
def AVA:List (Nat×GF):=[(383,oH),(384,ABA),(356,ABM),(333,ABN),(385,ABO),(398,du),(354,ABP),(386,ABQ),(357,ABR),(387,dv),(320,ABS),(358,ABT),(296,AAf),(334,ABU),(280,ABV),(197,ABW)]
def AU1:List (Nat×Bz):=(lX AVA).reverseAux AU0
theorem AVK:MM AU1:=Mts AVJ (by kernel_rfl) (by kernel_rfl)
def AVB:List (Nat×GF):=[(138,ABX),(72,oQ),(141,n7),(139,AMd),(140,AMe),(142,AMP),(200,AMf),(143,oN),(73,AMQ),(74,AMT),(75,oO),(19,AMU),(116,dM),(113,AAM),(169,AAN),(114,AAO)]
def AU2:List (Nat×Bz):=(lX AVB).reverseAux AU1
theorem AVL:MM AU2:=Mts AVK (by kernel_rfl) (by kernel_rfl)
def AVC:List (Nat×GF):=[(239,AAP),(297,AAQ),(240,AAR),(377,AAS),(344,AAT),(298,AAU),(241,AAV),(170,AAW),(115,z8),(56,AAA),(117,AAB),(57,AAC),(118,AAD),(58,nh),(11,ni),(76,AAX)]
def AU3:List (Nat×Bz):=(lX AVC).reverseAux AU2
theorem AVM:MM AU3:=Mts AVL (by kernel_rfl) (by kernel_rfl)
def AVD:List (Nat×GF):=[(23,nt),(20,ALo),(5,Eg)]
def AVO:List (Nat×Bz):=(lX AVD).reverseAux AU3
theorem AVN:MM AVO:=Mts AVM (by kernel_rfl) (by kernel_rfl)
theorem Pe:M 5 Eg:=Mt.at AVN (by kernel_rfl)
end Go.Proofs.YtpbbmlmilagnkaaGreat.fnExactStays
