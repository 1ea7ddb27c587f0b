/-
  The functions that the law FnExactMarkStep reaches are the texts that are shown.
-/
import Derived.Test.YtpbbmlmilagnkaaGreatRows
import Derived.Test.YtpbbmlmilagnkaaGreatLF
import Derived.Test.YtpbbmlmilagnkaaGreatPQ
import Derived.JoinedCond
noncomputable section
set_option linter.unusedVariables false
set_option linter.unusedSimpArgs false
set_option linter.unusedSectionVars false
namespace Go.Proofs.YtpbbmlmilagnkaaGreat.fnExactMarkStep
open Go Lv Lv.P
set_option maxRecDepth 100000
abbrev M(n:Nat)(g:GF):Prop:=Mt (PB Tryz.prog) Tryz.prog n g.x
theorem MB {A P n fn f} {l:List (Nat×Ba)} (h1:P.funcs[n]?=some fn) (h4:∀p∈l,Mt A P p.1 p.2) (h2:AFX P fn f=true:=by kernel_rfl) (h3:jN fn f=l:=by kernel_rfl):Mt A P n f:=Mt.by h1 h2 h3 h4
def CR:Go.Shelf.Ren:=⟨fun|29=>375|30=>376|n=>n,fun|0=>0|3=>3|4=>4|9=>237|24=>216|n=>n,fun n=>n⟩
theorem DY:Uf Tryz.prog CR 343 2 where
 mixed:=by kernel_rfl
 f22:=⟨"slices.Insert[[]loop.example/g00494/impl.Pin,loop.example/g00494/impl.Pin]",by decide,Tryz.func343.trans (congrArg some (by kernel_rfl))⟩
 ov:=fun args w=>Go.run_callFunc_extern Tryz.func375 (by kernel_rfl) (by kernel_rfl) (by kernel_rfl) (by kernel_rfl) args w
 t3:=Tryz.underlying3
 a3:=Tryz.isAgg3
 z3:=Tryz.sizeOf3
 t4:=Tryz.underlying4
 a4:=Tryz.isAgg4
 t24:=Tryz.underlying216
 a24:=Tryz.isAgg216
 z9:=Tryz.sizeOf237
 el:=by kernel_rfl
 gr:=by kernel_rfl
 two:=by decide
theorem uh:M 343 Xo:=.K9 (.inl (.inl ⟨CR,2,DY,rfl,rfl⟩))
def rb0:List (Nat×Ba):=[(343,Xo.x)]
abbrev MM(r:List (Nat×Ba)):Prop:=∀p∈r,Mt (PB Tryz.prog) Tryz.prog p.1 p.2
theorem mb0:MM rb0:=(.and uh .none)
def lb1:List (Nat×GF):=[(82,za),(79,AEO),(80,AEP),(201,AEQ),(335,AER),(283,AET),(202,AEU),(144,AEY),(81,AEZ),(26,AEa),(83,AEb),(27,AEc),(28,AEd),(7,zb),(98,zc),(95,AEe)]
def rb1:List (Nat×Ba):=(lX lb1).reverseAux rb0
theorem mb1:MM rb1:=Mt.s mb0 (by kernel_rfl) (by kernel_rfl)
def lb2:List (Nat×GF):=[(156,AEf),(96,AEg),(222,AEh),(289,AEi),(223,AEj),(360,AEk),(337,AEl),(290,AEm),(224,AEn),(157,AEo),(97,AEI),(41,AEJ),(99,AEK),(42,AEL),(100,AEM),(43,AEN)]
def rb2:List (Nat×Ba):=(lX lb2).reverseAux rb1
theorem mb2:MM rb2:=Mt.s mb1 (by kernel_rfl) (by kernel_rfl)
def lb3:List (Nat×GF):=[(9,zZ),(127,s3),(203,dk),(204,eP),(145,tK),(84,tL),(29,eQ),(31,G8),(126,bW),(205,nV),(146,qh),(206,qv),(147,qy),(244,rA),(311,dh),(303,rB)]
def rb3:List (Nat×Ba):=(lX lb3).reverseAux rb2
theorem mb3:MM rb3:=Mt.s mb2 (by kernel_rfl) (by kernel_rfl)
def lb4:List (Nat×GF):=[(261,rC),(286,di),(312,dj),(262,Xd),(185,rD),(220,Xe),(359,rF),(336,rG),(284,rH),(285,rI),(207,dm),(186,rJ),(287,Xf),(209,rK),(210,dn),(208,rL)]
def rb4:List (Nat×Ba):=(lX lb4).reverseAux rb3
theorem mb4:MM rb4:=Mt.s mb3 (by kernel_rfl) (by kernel_rfl)
def lb5:List (Nat×GF):=[(211,dp),(212,dq),(148,rM),(149,qW),(85,Sg),(88,PV),(86,qX),(150,qY),(87,qZ),(30,qg),(33,eX),(213,eT),(153,tV),(217,Xp),(216,te),(215,eW)]
def rb5:List (Nat×Ba):=(lX lb5).reverseAux rb4
theorem mb5:MM rb5:=Mt.s mb4 (by kernel_rfl) (by kernel_rfl)
def lb6:List (Nat×GF):=[(214,tf),(218,th),(176,s4),(288,s7),(219,tj),(152,r5),(90,dy),(131,tk),(154,tl),(151,eA),(89,sZ),(92,eG),(91,eH),(35,eJ),(93,tn),(37,eY)]
def rb6:List (Nat×Ba):=(lX lb6).reverseAux rb5
theorem mb6:MM rb6:=Mt.s mb5 (by kernel_rfl) (by kernel_rfl)
def lb7:List (Nat×GF):=[(32,tp),(34,tN),(36,tu),(63,eV),(221,tM),(155,tX),(94,tY),(39,tZ),(38,tw),(40,tx),(8,eo),(158,Sk),(136,sQ),(225,tO),(226,eR),(159,tP)]
def rb7:List (Nat×Ba):=(lX lb7).reverseAux rb6
theorem mb7:MM rb7:=Mt.s mb6 (by kernel_rfl) (by kernel_rfl)
def lb8:List (Nat×GF):=[(101,tQ),(44,eS),(48,eZ),(104,FD),(106,Pb),(108,Pc),(234,eU),(166,tW),(235,s8),(135,PW),(236,s9),(47,Ns),(160,Xi),(351,rb),(317,re),(268,rf)]
def rb8:List (Nat×Ba):=(lX lb8).reverseAux rb7
theorem mb8:MM rb8:=Mt.s mb7 (by kernel_rfl) (by kernel_rfl)
def lb9:List (Nat×GF):=[(361,dv),(399,Xl),(388,PY)]
def rb9:List (Nat×Ba):=(lX lb9).reverseAux rb8
theorem mb9:MM rb9:=Mt.s mb8 (by kernel_rfl) (by kernel_rfl)
theorem uf:M 388 PY:=Mt.at mb9 (by kernel_rfl)
theorem Mh:(k:Nat)->Mt (PB Tryz.prog) Tryz.prog 362 (M6 k).x|0=>.K9 (.inl (.inr ⟨rfl,_,Tryz.func362,by kernel_rfl,by kernel_rfl⟩))|k+1=>MB (f:=(qV (M6 k)).x) Tryz.func362 (l:=[(388,PY.x),(362,(M6 k).x),(362,(M6 k).x)]) (.and uf (.and (Mh k) (.and (Mh k) .none)))
theorem ug:M 362 Sj:=Mh 7
def AGu:List (Nat×Ba):=(362,Sj.x)::rb9
theorem AKq:MM AGu:=Mt.and ug mb9
def AKg:List (Nat×GF):=[(338,rh),(291,ri),(363,rV),(339,dt),(292,Gs),(227,dw),(231,eC),(232,eD),(364,Xg),(401,Xh),(394,PX)]
def AGv:List (Nat×Ba):=(lX AKg).reverseAux AGu
theorem AFJ:MM AGv:=Mt.s AKq (by kernel_rfl) (by kernel_rfl)
theorem ud:M 394 PX:=Mt.at AFJ (by kernel_rfl)
theorem Mg:(k:Nat)->Mt (PB Tryz.prog) Tryz.prog 374 (M5 k).x|0=>.K9 (.inl (.inr ⟨rfl,_,Tryz.func374,by kernel_rfl,by kernel_rfl⟩))|k+1=>MB (f:=(qU (M5 k)).x) Tryz.func374 (l:=[(394,PX.x),(374,(M5 k).x),(374,(M5 k).x)]) (.and ud (.and (Mg k) (.and (Mg k) .none)))
theorem ue:M 374 Si:=Mg 7
def AGw:List (Nat×Ba):=(374,Si.x)::AGv
theorem AKr:MM AGw:=Mt.and ue AFJ
def AKh:List (Nat×GF):=[(342,rS),(295,r6),(294,Eu),(230,eB),(189,sR),(324,du),(282,Xk),(296,tC),(237,tE),(161,rT),(263,rU),(318,rW),(355,Xj),(354,rX),(322,rY),(281,rZ)]
def AGx:List (Nat×Ba):=(lX AKh).reverseAux AGw
theorem AKs:MM AGx:=Mt.s AKr (by kernel_rfl) (by kernel_rfl)
def AKi:List (Nat×GF):=[(198,ra),(199,rj),(373,rN),(341,rO),(340,rP),(293,rQ),(229,rR),(228,r7),(162,r8),(233,r9),(163,sA),(102,PZ),(165,Xm),(107,sg),(141,tF),(167,tG)]
def AGy:List (Nat×Ba):=(lX AKi).reverseAux AGx
theorem AKt:MM AGy:=Mt.s AKs (by kernel_rfl) (by kernel_rfl)
def AKj:List (Nat×GF):=[(107,sa),(109,eK),(110,Xn),(51,sb),(107,sd),(51,se),(111,tq),(53,eg),(45,tt),(103,sB),(164,sC),(105,sD),(46,sE),(49,tz),(50,tU),(52,sS)]
def AGz:List (Nat×Ba):=(lX AKj).reverseAux AGy
theorem AKu:MM AGz:=Mt.s AKt (by kernel_rfl) (by kernel_rfl)
def AKk:List (Nat×GF):=[(238,tT),(168,ta),(112,s5),(55,s6),(54,uA),(10,eu),(116,eE),(113,sF),(169,sG),(114,sH),(239,sI),(297,sJ),(240,sK),(377,sL),(344,sM),(298,sN)]
def AG0:List (Nat×Ba):=(lX AKk).reverseAux AGz
theorem AKv:MM AG0:=Mt.s AKu (by kernel_rfl) (by kernel_rfl)
def AKl:List (Nat×GF):=[(241,sO),(170,sP),(115,rl),(56,rm),(117,rp),(57,rq),(118,rr),(58,rz),(11,dx),(77,eL),(119,si),(120,sj),(171,sk),(242,su),(172,sv),(121,sx)]
def AG1:List (Nat×Ba):=(lX AKl).reverseAux AG0
theorem AKw:MM AG1:=Mt.s AKv (by kernel_rfl) (by kernel_rfl)
def AKm:List (Nat×GF):=[(59,sy),(60,sT),(12,eF),(78,eM),(122,sU),(123,sV),(173,sW),(243,sX),(174,sY),(124,tH),(61,tI),(62,tJ),(13,eO),(3,Dn)]
def ALC:List (Nat×Ba):=(lX AKm).reverseAux AG1
theorem AKx:MM ALC:=Mt.s AKw (by kernel_rfl) (by kernel_rfl)
theorem Lk:M 3 Dn:=Mt.at AKx (by kernel_rfl)
end Go.Proofs.YtpbbmlmilagnkaaGreat.fnExactMarkStep
