/- Plain laws about what the program computes. -/
import Derived.Test.YtnjoipcemhflkaaGreatPNb
set_option linter.unusedVariables false
set_option linter.unusedSimpArgs false
set_option linter.unusedSectionVars false
open Bool renaming not_eq_false->Ji
namespace Lv.P
open Go (IntKind BinOp UnOp)
end Lv.P
namespace Lv.P
open Lv Go
def Rq(a:Bp):Bp:=if Fz a=true then ⟨a.Data,a.Data.length⟩ else a
theorem UJ(a:Bp):AKa a=some (Rq a):=by
 grind[AKa,AeA,Rq,HH,AB,Bi,AV]
theorem Zy(a:Bp):AJt a=some (Rq a):=by
 unfold AJt Rq;rw[GN,AB,BK,Bi];split<;>rfl
noncomputable def JZ(e:Ap):Ap×List B6:=
 if D7 e=false then (e,[]) else (⟨(Ge e.Laid e.BO).1,⟨Rq e.BH.Log,e.BH.DW,e.BH.Odd⟩,e.Seq,[]⟩,(Ge e.Laid e.BO).2)
theorem aX{e:Ap}(a:Cc e):AKb e=some (JZ e):=by
 unfold AKb JZ;rw[I3 a,AB,HQ a,AB,BK,Bi];by_cases c:D7 e=true
 .rw[AW c,AR (by simp[c]),RQ a.EY a.laid,AB,UJ,AB]
 grind
theorem OG(a:Bp):(Rq a).Data=a.Data:=by unfold Rq;split<;>rfl
theorem tO{e:Ap}(a:Cc e):Cc (JZ e).1/\(JZ e).2.length<=1048576/\∀r∈(JZ e).2,r.Ids.length<=1048576:=by
 unfold JZ;split
 .grind
 .obtain⟨c,j,g⟩:=KL e.Laid a.EY;have q:=a.laid;exact⟨⟨c,by dsimp only;rw[OG];exact a.log,a.even,a.odd,by simp⟩,by dsimp only;omega,fun r h=>by have:=g r h;omega⟩
theorem ANl{e:Ap}{q:B3}(h:(K7 e q).2=0):D7 (K7 e q).1=true/\D7 e=true/\KT q=true/\(K7 e q).1.BO=e.BO/\(K7 e q).1.Laid=e.Laid++[q]/\(K7 e q).1.Seq=e.Seq+1:=by
 unfold K7 at h ⊢;by_cases a:D7 e=false
 .rw[AW a]at h;cases h
 rw[AR a]at h ⊢;rw[Ji]at a;by_cases c:KT q=false
 .rw[AW c]at h;cases h
 rw[AR c]at h ⊢;rw[Ji]at c;by_cases j:e.Seq=1000000
 .rw[AW j]at h;cases h
 rw[AR j]at h ⊢;by_cases g:e.Laid.length=8\/(G7 e.BH.Log (frB (w64 (e.Seq+1)) (Gu q))).2=false
 .rw[AW g]at h;cases h
 rw[AR g];have B:=VG a;have ew:w64 (e.Seq+1)=e.Seq+1:=A2 (by omega) (by omega);rw[ew]at g ⊢;have y:Fz (G7 e.BH.Log (frB (e.Seq+1) (Gu q))).1=true:=by
  grind[G7,IT]
 grind[D7,CA,II]
noncomputable def AJS(e:Ap)(q:B3):Ap×B6:=
 if (K7 e q).2≠0 then (e,⟨(K7 e q).2,[]⟩) else ((JZ (K7 e q).1).1,(JZ (K7 e q).1).2.getD (e.Laid.length) ⟨0,[]⟩)
theorem AHq{e:Ap}(a:Cc e){q:B3}(h:(K7 e q).2=0):at? (JZ (K7 e q).1).2 (w64 (((JZ (K7 e q).1).2.length:Int)-1))=some ((JZ (K7 e q).1).2.getD (e.Laid.length) ⟨0,[]⟩)/\(JZ (K7 e q).1).2.length=e.Laid.length+1:=by
 obtain⟨c,E,G,H,g,I⟩:=ANl h;have j:=Xw a q;have y:(JZ (K7 e q).1).2.length=e.Laid.length+1:=by
  unfold JZ;rw[AR (by simp[c])];dsimp only;rw[(KL _ j.EY).2.1,g];simp
 refine⟨?_,y⟩;have B:=a.laid
 grind[A2,BG]
theorem APV{e:Ap}(a:Cc e)(q:B3):AQr e q=some (AJS e q):=by
 grind[AQr,AJS,YX,AB,Bi,K7,AHq,aX,Xw]
end Lv.P
