/- Plain laws about what the program computes. -/
import Derived.Test.YtnjoipcemhflkaaGreatPNw
noncomputable section
set_option linter.unusedVariables false
set_option linter.unusedSimpArgs false
set_option linter.unusedSectionVars false
open Bool renaming not_true->Bs,true_and->Cm
open List renaming getElem_mem->Ah
namespace Lv.P
open Go (IntKind BinOp UnOp)
structure KU(w:Cf):Prop where
 Qk:Cc w.Ao
 done:w.GS.length<=1048576
 AU4:w.Dn.length<=1048576
 ids:∀r∈w.Dn,r.Ids.length<=1048576
def QU(r:Aa):Cf×Bool:=if (FW r).2=true then (⟨(FW r).1,[],[],0⟩,true) else (⟨Hj,[],[],0⟩,false)
theorem AH4{r:Aa}(a:r.AY.length<=1048576):KK r=some (QU r):=by
 unfold KK QU;rw[ADz a,AB,BK,Bi];split<;>rfl
end Lv.P
namespace Lv.P
open Lv Go
def Rq(a:Bp):Bp:=if Fz a=true then ⟨a.Data,a.Data.length⟩ else a
theorem UJ(a:Bp):Aky a=some (Rq a):=by
 grind[Aky,AlE,Rq,HH,AB,Bi,AV]
theorem Zy(a:Bp):ABM a=some (Rq a):=by
 unfold ABM Rq;rw[GN,AB,BK,Bi];split<;>rfl
def JZ(e:Ap):Ap×List B6:=
 if D7 e=false then (e,[]) else (⟨(Ge e.Laid e.BO).1,⟨Rq e.BH.Log,e.BH.DW,e.BH.Odd⟩,e.Seq,[]⟩,(Ge e.Laid e.BO).2)
theorem aX{e:Ap}(a:Cc e):Alp e=some (JZ e):=by
 unfold Alp JZ;rw[I3 a,AB,HQ a,AB,BK,Bi];by_cases c:D7 e=true
 .rw[AW c,AR (by simp[c]),RQ a.EY a.laid,AB,UJ,AB]
 grind
theorem ANd{e:Ap}(a:Cc e):XC e=some (JZ e):=by
 unfold XC JZ;rw[Nl a,AB,IV a,AB,BK,Bi];by_cases c:D7 e=true
 .rw[AW c,AR (by simp[c]),Zy,AB,Qz a.EY a.laid,AB]
 grind
theorem OG(a:Bp):(Rq a).Data=a.Data:=by unfold Rq;split<;>rfl
theorem tO{e:Ap}(a:Cc e):Cc (JZ e).1/\(JZ e).2.length<=1048576/\∀r∈(JZ e).2,r.Ids.length<=1048576:=by
 unfold JZ;split
 .grind
 .obtain⟨c,j,g⟩:=KL e.Laid a.EY;have q:=a.laid;exact⟨⟨c,by dsimp only;rw[OG];exact a.log,a.even,a.odd,by simp⟩,by dsimp only;omega,fun r h=>by have:=g r h;omega⟩
def RN(a b:Aa):Bool:=ES (·==·) a.AY b.AY&&(a.CS==b.CS&&(a.Room==b.Room&&(a.BE==b.BE&&(a.CE==b.CE&&(a.Bz==b.Bz&&(a.Rest==b.Rest&&(a.CY==b.CY&&a.Cu==b.Cu)))))))
theorem oC{a b:Aa}(c:a.AY.length<2 ^ 62):Wp a b=some (RN a b):=by
 unfold Wp iJ RN;rw[Hz c,AB];simp only[AV,CX]
theorem mS{a b:Aa}(c:a.AY.length<2 ^ 62):ACX a b=some (RN a b):=by
 unfold ACX AkM RN;rw[ML c,AB];simp only[AV,CX]
def o6(a b:Aw):Bool:=G2 a&&(G2 b&&ES eqP (Eu a) (Eu b))
theorem oD{a b:Aw}(c:DV a)(e:DV b):DH a b=some (o6 a b):=by
 have g:=IF c;unfold DH Alx o6;simp only[HK c,HK e,MS c,MS e,PN (show (Eu a).length<2 ^ 62 by omega),AB,AV,CX]
theorem mT{a b:Aw}(c:DV a)(e:DV b):AQe a b=some (o6 a b):=by
 have g:=IF c;unfold AQe AmJ o6;simp only[IC c,IC e,Of c,Of e,bZ (show (Eu a).length<2 ^ 62 by omega),AB,AV,CX]
def AYg(a b:BI):Bool:=a.Total==b.Total&&(a.Dv==b.Dv&&(a.FA==b.FA&&(a.Fm==b.Fm&&(a.F8==b.F8&&true))))
def AAK(a b:Ae):Bool:=LR a&&(LR b&&(AYg a.AY b.AY&&(ES eqE a.Row b.Row&&o6 a.By b.By)))
theorem oA{a b:Ae}(c:FD a)(e:FD b):AB2 a b=some (AAK a b):=by
 have g:=c.1;unfold AB2 AlK AAK AYg;simp only[NH c,NH e,RT (show a.Row.length<2 ^ 62 by omega),oD c.2 e.2,AB,AV,CX]
theorem mP{a b:Ae}(c:FD a)(e:FD b):AQf a b=some (AAK a b):=by
 have g:=c.1;unfold AQf jK AAK AYg;simp only[Qx c,Qx e,bY (show a.Row.length<2 ^ 62 by omega),mT c.2 e.2,AB,AV,CX]
def AWT(x y:AU):Bool:=x.Id==y.Id&&(x.Ab==y.Ab&&(x.Bu==y.Bu&&(x.BE==y.BE&&(x.DJ==y.DJ&&(x.Since==y.Since&&(x.A0==y.A0&&(x.State==y.State&&(x.C7==y.C7&&(x.Dh==y.Dh&&true)))))))))
def Zv(a b:AE):Bool:=
 DD a&&(DD b&&(RN a.AQ b.AQ&&(a.Now==b.Now&&(a.A0==b.A0&&(ES AWT a.AG b.AG&&(ES (·==·) a.BB b.BB&&(ES (·==·) a.A9 b.A9&&ES AAK a.AH b.AH)))))))
theorem mQ{a b:AE}(c:Bt a)(g:Bt b):AKg a b=some (Zv a b):=by
 have y:=c.De;have B:=c.CM;have E:=c.Ds;have G:=c.todo;have H:=c.Fk;have j:AKf a.AH b.AH=some (ES AAK a.AH b.AH):=by
  unfold AKf;refine PI (by omega) ?_ ?_
  .intro L i h e;unfold Ane;rw[B9 h,BP,BG h,AB,BG e,AB,mP (c.ED _ (Ah h)) (g.ED _ (Ah e)),AB]
  .intro L;unfold Ane Ao1;rw[Cr,Bb,AV]
 have q:AKe a.AG b.AG=some (ES AWT a.AG b.AG):=by
  unfold AKe;refine PI (by omega) ?_ ?_
  .intro L i h e;unfold AeD;rw[B9 h,BP,BG h,AB,BG e,AB];rfl
  .intro L;unfold AeD AgM;rw[Cr,Bb,AV]
 unfold AKg jL Zv;simp only[Fe c,Fe g,mS (show a.AQ.AY.length<2 ^ 62 by omega),q,j,ML (show a.BB.length<2 ^ 62 by omega),ML (show a.A9.length<2 ^ 62 by omega),AB,AV,CX]
theorem tN{α:Type}{eq:α->α->Bool}{a b:List α}{F:(Int->AA Bool)->Int->AA Bool}{E:Bool}(c:a.length<2 ^ 63)(e:a.length=b.length)
 (step:∀L i (h:i<a.length) (j:i<b.length),F L (i:Int)=br (!(eq a[i] b[i])) (some false) (L (w64 ((i:Int)+1)))) (stop:∀L,F L (a.length:Int)=some E):BD F big 0=some (ES eq a b&&E):=by
 refine(C3 (n:=a.length) (fun i (_:Unit)=>(i:Int)) (fun _ _=>True) (fun i _=>some (ES eq (a.drop i) (b.drop i)&&E)) c ?_ (v:=()) trivial);intro L i _ _ hi g;rcases Nat.lt_or_ge i a.length with h|h
 .rw[step L i h (by omega),Bn h c,Dg h,Dg (l:=b) (i:=i) (by omega),ES,BK];cases eq a[i] b[i] with|true=>rw[BP,g () trivial h];rfl|false=>rfl
 .obtain rfl:i=a.length:=by omega
  rw[stop,List.drop_length,List.drop_eq_nil_of_le (by omega)];rfl
theorem AIg{a b:Aa}:RN a b=true↔a=b:=by
 unfold RN;obtain⟨s,c,e,a3,a4,g,h,j,q⟩:=a;obtain⟨t,y,B,E,G,H,I,J,L⟩:=b
 grind[Hs,Aa.mk.injEq]
theorem TZ{a b:AE}(c:Bt a)(E:Bt b):Po a b=some (Zv a b):=by
 have O:=c.De;have Q:=c.CM;have S:=c.Ds;have X:=c.todo;have Y:=c.Fk;have G:Aj1 a b true=some false:=rfl;have J:DD a=true->DD b=true->RN a.AQ b.AQ=true->a.AG.length=b.AG.length->Aj1 a b false=some (ES AWT a.AG b.AG&&ES AAK a.AH b.AH):=by
  intro gA gB gR gp;have B:a.AH.length=b.AH.length:=by
   have j:=(GW.1 gA).Ds;have e:=(GW.1 gB).Ds;rw[j,e,AIg.1 gR]
  unfold Aj1;rw[Bb];refine tN (by omega) gp ?_ ?_
  .intro L i h g;unfold AmD;rw[B9 h,BP,BG h,AB,BG g,AB];rfl
  .intro L;unfold AmD Aly;rw[Cr,Bb,AV,<-Bool.and_true (ES AAK a.AH b.AH)];refine tN (by omega) B ?_ ?_
   .intro L i h g;unfold Alh;rw[B9 h,BP,BG h,AB,BG g,AB,oA (c.ED _ (Ah h)) (E.ED _ (Ah g)),AB]
   .intro L;unfold Alh Am5;rw[Cr,Bb,AV]
 unfold Po Zv;rw[GJ c,AB,GJ E,AB,oC (by omega),AB,Hz (by omega),AB,Hz (by omega),AB];simp only[AV,G,BK];cases gA:DD a
 .rfl
 cases gB:DD b
 .rfl
 cases gR:RN a.AQ b.AQ
 .rfl
 simp only[BP,Cm];by_cases n:a.Now=b.Now
 .by_cases t:a.A0=b.A0
  .by_cases p:a.AG.length=b.AG.length
   .have j:(a.Now != b.Now)=false:=by simp[n]
    have e:(a.A0 != b.A0)=false:=by simp[t]
    have q:((a.AG.length:Int) != (b.AG.length:Int))=false:=by simp[p]
    have H:(a.Now==b.Now)=true:=by simp[n]
    have y:(a.A0==b.A0)=true:=by simp[t]
    rw[j,e,q,H,y,Bb,Bb,Bb,Cm,Cm];cases ES (·==·) a.BB b.BB
    .simp
    .cases ES (·==·) a.A9 b.A9
     .simp[G]
     .rw[BP,Bs,J gA gB gR p,Cm,Cm]
   .have q:((a.AG.length:Int) != (b.AG.length:Int))=true:=by simp;omega
    have I:ES AWT a.AG b.AG=false:=nn p;rw[q,BP,WA,WA,I];simp
  .have e:(a.A0 != b.A0)=true:=by simpa using t
   have y:(a.A0==b.A0)=false:=by simpa using t
   rw[e,BP,WA,y];simp
 grind[BP]
def AIe(a b:B6):Bool:=a.Code==b.Code&&ES (·==·) a.Ids b.Ids
theorem oB{a b:B6}(c:a.Ids.length<=1048576):XD a b=some (AIe a b):=by
 grind[XD,jd,AIe,Hz,AB,AV,CX]
theorem mR{a b:B6}(c:a.Ids.length<=1048576):AKi a b=some (AIe a b):=by
 grind[AKi,Ang,AIe,ML,AB,AV,CX]
theorem zQ{a b:List B6}(e:a.length<=1048576)(c:∀r∈a,r.Ids.length<=1048576):AKh a b=some (ES AIe a b):=by
 unfold AKh;refine PI (by omega) ?_ ?_
 .grind[Anf,BP,BG,AB,oB]
 grind[Anf,Ao2,Bb,AV]
theorem Zw{a b:List B6}(e:a.length<=1048576)(c:∀r∈a,r.Ids.length<=1048576):AKj a b=some (ES AIe a b):=by
 unfold AKj;refine PI (by omega) ?_ ?_
 .grind[XA,BP,BG,AB,mR]
 grind[XA,jN,Bb,AV]
def aY(w:Cf):Bool:=
 D7 w.Ao&&(w.Ao.Seq==w64 ((w.GS.length:Int)+(w.Ao.Laid.length:Int))&&(Zv (Ge w.GS (DU w.Ao.BO.AQ).1).1 w.Ao.BO&&ES AIe (Ge w.GS (DU w.Ao.BO.AQ).1).2 w.Dn))
theorem oI{w:Cf}(c:KU w):ACY w=some (aY w):=by
 have a:=c.Qk;have e:=JM a.EY.De;obtain⟨g,q,h⟩:=KL w.GS e;have y:=c.done;unfold ACY jM AeH aY;simp only[HQ a,my a.EY.De,RQ e c.done,TZ g a.EY,zQ (show (Ge w.GS (DU w.Ao.BO.AQ).1).2.length<=1048576 by omega) (fun r j=>by have:=h r j;omega),AB,AV,CX];cases D7 w.Ao
 .rfl
 .simp only[bne,BK,BP,Cm,Bs];cases w.Ao.Seq==w64 ((w.GS.length:Int)+(w.Ao.Laid.length:Int))<;>rfl
theorem AHm{w:Cf}(c:KU w):ACm w=some (aY w):=by
 have a:=c.Qk;have e:=JM a.EY.De;obtain⟨g,q,h⟩:=KL w.GS e;have y:=c.done;unfold ACm jt Anp aY;simp only[IV a,mw a.EY.De,Qz e c.done,mQ g a.EY,Zw (show (Ge w.GS (DU w.Ao.BO.AQ).1).2.length<=1048576 by omega) (fun r j=>by have:=h r j;omega),AB,AV,CX];cases D7 w.Ao
 .rfl
 .simp only[bne,BK,BP,Cm,Bs];cases w.Ao.Seq==w64 ((w.GS.length:Int)+(w.Ao.Laid.length:Int))<;>rfl
end Lv.P
