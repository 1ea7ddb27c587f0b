/- Plain laws about what the program computes. -/
import Derived.Test.YtdmpkjjlnjchkaaGreatKI4
import Derived.Test.YtdmpkjjlnjchkaaGreatPT4
set_option linter.unusedVariables false
set_option linter.unusedSimpArgs false
set_option linter.unusedSectionVars false
namespace Lv.P
open Lv Go
theorem AcX{s:List UInt8}(a:s.length<=1048576):∃x,AKJ s=some x/\CW x.1/\x.1.Laid.length<=20:=AXO a
theorem AaF{e:Ae}{q:BX}(h:(JB e q).2=0):(JB e q).1.BO.Log.Safe=e.BO.Log.Safe/\(JB e q).1.BO.Log.Data=e.BO.Log.Data++frB (e.Seq+1) (F5 q):=by
 have a:=mC h;have c:=Ks a.2.1;have ew:w64 (e.Seq+1)=e.Seq+1:=Ai (by omega) (by omega);unfold JB at h ⊢;rw[ew]at h ⊢;unfold G0 at h ⊢
 grind
theorem AUb{s:List UInt8}(_:okL okT s):O8 s=some true:=by
 unfold O8;rw[yI,AB,BA];split
 .rfl
 obtain⟨x,ex,fx,lx⟩:=AcX (s:=s) (by omega);rw[ex,AB,ALk fx,AB,Z6 fx,AB,bne_self_eq_false,BN];unfold Ed;by_cases a:(JB x.1 x.2).2=0
 .obtain⟨q,c,O,y,B,E⟩:=mC a;obtain⟨e,L⟩:=AaF a;have H:=Ks c;have ff:=UD fx x.2;have I:=AD1 (x.1.Seq+1) (F5 x.2);have ew:w64 (x.1.Seq+1)=x.1.Seq+1:=Ai (by omega) (by omega);have J:=(Ks c).2.1;have G:Gn x.1.BO.Log=true:=by grind[KP]
  have hA:=LH.1 G;rw[a,show ((0:Int) != 0)=false from rfl,BN,y,zE fx.EL H.1,AB,BH,e,show (x.1.BO.Log.Safe==x.1.BO.Log.Safe)=true from by simp,BH,ALm ff,AMq fx,AB,AB,n0,AB,ew,B,E];have g:(WI (JB x.1 x.2).1 (Ef (JB x.1 x.2).1)==w64 (WI x.1 (Ef x.1)+((frB (x.1.Seq+1) (F5 x.2)).length:Int)))=true:=by
   unfold WI;rw[q,c,if_pos rfl,if_pos rfl,e,L,List.length_append,Ai (n:=(x.1.BO.Log.Data.length:Int)-x.1.BO.Log.Safe) (by omega) (by omega)];rw[beq_iff_eq];congr 1;omega
  have h:((((x.1.Laid++[x.2]).length:Nat):Int)==w64 ((x.1.Laid.length:Int)+1))=true:=by
   rw[Ai (by omega) (by omega),beq_iff_eq];simp
  have j:at? (x.1.Laid++[x.2]) (x.1.Laid.length:Int)=some x.2:=by
   rw[A7 (by simp)];simp
  rw[g,BH,h,BH,j,AB,AB];simp[BZ,AR]
 .rw[AaE a,show ((JB x.1 x.2).2 != 0)=true from by simpa using a,BH];simp[BZ,AR]
def Two(n k:Int):Prop:=n=0/\k=1\/n=1/\k=0
theorem Two.pu3{n k:Int}(h:Two n k)(s:Bb)(a:Bu):Gz (jJ s k a) k=a/\Gz (jJ s k a) n=Gz s n/\(jJ s k a).Log=s.Log:=by
 rcases h with ⟨rfl,rfl⟩|⟨rfl,rfl⟩<;>exact⟨rfl,rfl,rfl⟩
end Lv.P
