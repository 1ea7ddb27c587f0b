/- Plain laws about what the program computes. -/
import Derived.Test.YtdmpkjjlnjchkaaGreatPN5
noncomputable section
set_option linter.unusedVariables false
set_option linter.unusedSimpArgs false
set_option linter.unusedSectionVars false
open Bool renaming true_and->DH
open List renaming getElem_mem->Am
namespace Lv.P
open Go (IntKind BinOp UnOp)
structure dv(w:GK):Prop where
 kg:CW w.Cr
 done:w.AGd.length<=1048576
 AhJ:w.O4.length<=1048576
 ids:∀r∈w.O4,r.Ids.length<=1048576
end Lv.P
namespace Lv.P
open Lv Go
def oA(a:Bu):Bu:=if Gn a=true then ⟨a.Data,a.Data.length⟩ else a
theorem aw(a:Bu):BJd a=some (oA a):=by
 grind[BJd,BIb,oA,IT,AB,BZ,AR]
theorem lj(a:Bu):Agw a=some (oA a):=by
 unfold Agw oA;rw[GY,AB,BI,BZ];split<;>rfl
theorem Q7(a:Bu):(oA a).Data=a.Data:=by unfold oA;split<;>rfl
def V8(a b:AZ):Bool:=Eb (·==·) a.AV b.AV&&(a.CJ==b.CJ&&(a.Room==b.Room&&(a.A2==b.A2&&(a.CB==b.CB&&(a.Bq==b.Bq&&(a.Rest==b.Rest&&(a.CL==b.CL&&a.Cs==b.Cs)))))))
theorem zP{a b:AZ}(c:a.AV.length<2 ^ 62):AAz a b=some (V8 a b):=by
 unfold AAz BHC V8;rw[Jv c,AB];simp only[AR,Cv]
theorem xu{a b:AZ}(c:a.AV.length<2 ^ 62):AI5 a b=some (V8 a b):=by
 unfold AI5 BHJ V8;rw[RX c,AB];simp only[AR,Cv]
def zt(a b:An):Bool:=HE a&&(HE b&&Eb eqP (Eo a) (Eo b))
theorem zQ{a b:An}(c:C1 a)(e:C1 b):AHq a b=some (zt a b):=by
 have g:=Io c;unfold AHq BJg zt;simp only[HU c,HU e,N6 c,N6 e,TL (show (Eo a).length<2 ^ 62 by omega),AB,AR,Cv]
theorem xv{a b:An}(c:C1 a)(e:C1 b):AI6 a b=some (zt a b):=by
 have g:=Io c;unfold AI6 A2E zt;simp only[Il c,Il e,RZ c,RZ e,nX (show (Eo a).length<2 ^ 62 by omega),AB,AR,Cv]
def Af9(a b:A9):Bool:=a.Total==b.Total&&(a.DT==b.DT&&(a.EH==b.EH&&(a.Ep==b.Ep&&(a.E8==b.E8&&true))))
def AGz(a b:AY):Bool:=Mg a&&(Mg b&&(Af9 a.AV b.AV&&(Eb eqE a.Row b.Row&&zt a.Bw b.Bw)))
theorem zO{a b:AY}(c:DI a)(e:DI b):XA a b=some (AGz a b):=by
 have g:=c.1;unfold XA BI8 AGz Af9;simp only[PL c,PL e,WC (show a.Row.length<2 ^ 62 by omega),zQ c.2 e.2,AB,AR,Cv]
theorem xt{a b:AY}(c:DI a)(e:DI b):tK a b=some (AGz a b):=by
 have g:=c.1;unfold tK AkI AGz Af9;simp only[Vf c,Vf e,nW (show a.Row.length<2 ^ 62 by omega),xv c.2 e.2,AB,AR,Cv]
def Adp(x y:AK):Bool:=x.Id==y.Id&&(x.Aa==y.Aa&&(x.Bl==y.Bl&&(x.A2==y.A2&&(x.Cj==y.Cj&&(x.Since==y.Since&&(x.Ap==y.Ap&&(x.State==y.State&&(x.Cf==y.Cf&&(x.Cu==y.Cu&&true)))))))))
def ZK(a b:AD):Bool:=
 DR a&&(DR b&&(V8 a.AO b.AO&&(a.Now==b.Now&&(a.Ap==b.Ap&&(Eb Adp a.AG b.AG&&(Eb (·==·) a.BC b.BC&&(Eb (·==·) a.A8 b.A8&&Eb AGz a.AI b.AI)))))))
theorem Qf{a b:AD}(c:Bp a)(g:Bp b):ABe a b=some (ZK a b):=by
 have y:=c.Dd;have B:=c.CS;have E:=c.EG;have G:=c.todo;have H:=c.F4;have j:AJe a.AI b.AI=some (Eb AGz a.AI b.AI):=by
  unfold AJe;refine Zv (by omega) ?_ ?_
  .intro L i h e;unfold tL;rw[CC h,BH,A7 h,AB,A7 e,AB,xt (c.De _ (Am h)) (g.De _ (Am e)),AB]
  .intro L;unfold tL AJf;rw[Cp,BN,AR]
 have q:sY a.AG b.AG=some (Eb Adp a.AG b.AG):=by
  unfold sY;refine Zv (by omega) ?_ ?_
  .intro L i h e;unfold BKX;rw[CC h,BH,A7 h,AB,A7 e,AB];rfl
  .intro L;unfold BKX BKh;rw[Cp,BN,AR]
 unfold ABe gF ZK;simp only[Fe c,Fe g,xu (show a.AO.AV.length<2 ^ 62 by omega),q,j,RX (show a.BC.length<2 ^ 62 by omega),RX (show a.A8.length<2 ^ 62 by omega),AB,AR,Cv]
theorem AC1{α:Type}{eq:α->α->Bool}{a b:List α}{F:(Int->AA Bool)->Int->AA Bool}{E:Bool}(c:a.length<2 ^ 63)(e:a.length=b.length)
 (step:∀L i (h:i<a.length) (j:i<b.length),F L (i:Int)=br (!(eq a[i] b[i])) (some false) (L (w64 ((i:Int)+1)))) (stop:∀L,F L (a.length:Int)=some E):A4 F big 0=some (Eb eq a b&&E):=by
 refine(C6 (n:=a.length) (fun i (_:Unit)=>(i:Int)) (fun _ _=>True) (fun i _=>some (Eb eq (a.drop i) (b.drop i)&&E)) c ?_ (v:=()) trivial);intro L i _ _ hi g;rcases Nat.lt_or_ge i a.length with h|h
 .rw[step L i h (by omega),BU h c,DW h,DW (l:=b) (i:=i) (by omega),Eb,BI];cases eq a[i] b[i] with|true=>rw[BH,g () trivial h];rfl|false=>rfl
 .obtain rfl:i=a.length:=by omega
  rw[stop,List.drop_length,List.drop_eq_nil_of_le (by omega)];rfl
theorem APR{a b:AZ}:V8 a b=true↔a=b:=by
 unfold V8;obtain⟨s,c,e,a3,a4,g,h,j,q⟩:=a;obtain⟨t,y,B,E,G,H,I,J,L⟩:=b
 grind[IK,AZ.mk.injEq]
theorem Q6{a b:AD}(c:Bp a)(E:Bp b):AQf a b=some (ZK a b):=by
 have O:=c.Dd;have Q:=c.CS;have S:=c.EG;have X:=c.todo;have Y:=c.F4;have G:A9Z a b true=some false:=rfl;have J:DR a=true->DR b=true->V8 a.AO b.AO=true->a.AG.length=b.AG.length->A9Z a b false=some (Eb Adp a.AG b.AG&&Eb AGz a.AI b.AI):=by
  intro gA gB gR gp;have B:a.AI.length=b.AI.length:=by
   have j:=(IF.1 gA).EG;have e:=(IF.1 gB).EG;rw[j,e,APR.1 gR]
  unfold A9Z;rw[BN];refine AC1 (by omega) gp ?_ ?_
  .intro L i h g;unfold BJq;rw[CC h,BH,A7 h,AB,A7 g,AB];rfl
  .intro L;unfold BJq BAt;rw[Cp,BN,AR,<-Bool.and_true (Eb AGz a.AI b.AI)];refine AC1 (by omega) B ?_ ?_
   .intro L i h g;unfold BJR;rw[CC h,BH,A7 h,AB,A7 g,AB,zO (c.De _ (Am h)) (E.De _ (Am g)),AB]
   .intro L;unfold BJR BJ6;rw[Cp,BN,AR]
 unfold AQf ZK;rw[GW c,AB,GW E,AB,zP (by omega),AB,Jv (by omega),AB,Jv (by omega),AB];simp only[AR,G,BI];cases gA:DR a
 .rfl
 cases gB:DR b
 .rfl
 cases gR:V8 a.AO b.AO
 .rfl
 simp only[BH,DH];by_cases n:a.Now=b.Now
 .by_cases t:a.Ap=b.Ap
  .by_cases p:a.AG.length=b.AG.length
   .have j:(a.Now != b.Now)=false:=by simp[n]
    have e:(a.Ap != b.Ap)=false:=by simp[t]
    have q:((a.AG.length:Int) != (b.AG.length:Int))=false:=by simp[p]
    have H:(a.Now==b.Now)=true:=by simp[n]
    have y:(a.Ap==b.Ap)=true:=by simp[t]
    rw[j,e,q,H,y,BN,BN,BN,DH,DH];cases Eb (·==·) a.BC b.BC
    .simp
    .cases Eb (·==·) a.A8 b.A8
     .simp[G]
     .rw[BH,Bool.not_true,J gA gB gR p,DH,DH]
   .have q:((a.AG.length:Int) != (b.AG.length:Int))=true:=by simp;omega
    have I:Eb Adp a.AG b.AG=false:=zD p;rw[q,BH,eH,eH,I];simp
  .have e:(a.Ap != b.Ap)=true:=by simpa using t
   have y:(a.Ap==b.Ap)=false:=by simpa using t
   rw[e,BH,eH,y];simp
 grind[BH]
end Lv.P
