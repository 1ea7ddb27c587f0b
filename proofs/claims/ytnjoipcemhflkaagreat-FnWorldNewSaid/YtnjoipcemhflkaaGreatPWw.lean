/- Plain laws about what the program computes. -/
import Derived.Test.YtnjoipcemhflkaaGreatPVw
import Derived.Test.YtnjoipcemhflkaaGreatPUw
set_option linter.unusedVariables false
set_option linter.unusedSimpArgs false
set_option linter.unusedSectionVars false
namespace Lv.P
open Lv Go
theorem pU{s:List UInt8}(e:s.length<=1048576):∃r,AQq s=some r/\r.AY.length<=5:=by
 unfold AQq;obtain⟨c,ec,a⟩:=AZ7 e;obtain⟨x,ex,lx,_⟩:=AIy a;rw[ec,AB,ex,AB];exact⟨_,rfl,lx⟩
theorem AP5{s:List UInt8}(i:Nat)(hi:i<9)(a:s.length<=1048576):∃k,gK s (i:Int)=some k:=by
 unfold gK;rw[BQ];split
 .rename_i h;rw[BG (by omega),AB];exact⟨_,rfl⟩
 .exact⟨_,rfl⟩
theorem APe{r:Aa}{e:Ap}(N:AZN r e)(f:Int):aY ⟨e,[],[],f⟩=true:=by
 have hE:Zv e.BO e.BO=true:=by
  have:=nq N.nwF.EY N.nwB;rw[TZ N.nwF.EY N.nwF.EY]at this;exact Option.some.inj this
 unfold aY;simp only[N.nwO,N.nwQ,N.nwL,N.nwR,<-N.nwH,Ge,hE];rfl
theorem dt{s:List UInt8}(_:okL okT s):Ik s=some true:=by
 unfold Ik;rw[ADr,AB,BQ];split
 .rfl
 obtain⟨r,er,lr⟩:=pU (s:=s) (by omega);rw[er,AB,AH4 (by omega),AB,IH (by omega),AB];cases j:Dz r with
 |false=>
  have:(QU r).2=false:=by unfold QU FW DU;simp[j]
  rw[Bool.not_false,BP,this];rfl
 |true=>
 obtain⟨e,N⟩:=AbF (r:=r) (by omega) j;obtain⟨k,ek⟩:=AP5 (s:=s) 1 (by omega) (by omega);have ek:gK s 1=some k:=ek;have E:QU r=(⟨e,[],[],0⟩,true):=by unfold QU;rw[N.nwN];rfl
 have fw:KU ⟨e,[],[],0⟩:=⟨N.nwF,by simp,by simp,by simp⟩;have c:KU ⟨e,[],[],1⟩:=⟨N.nwF,by simp,by simp,by simp⟩;obtain⟨x,_,G,_,H⟩:=tu (w:=⟨e,[],[],0⟩) ⟨fw,by simp[N.nwL],by simp[N.nwL]⟩ ⟨4,⟨0,0,0,0,0,0⟩,0,[k]⟩;obtain⟨n,q,R,a⟩:=H.hpF N.nwO rfl;dsimp only at R a;rw[N.nwY]at R a;have y:n=0:=by have:=R.im;rw[N.nwS.im]at this;exact(Option.some.inj this).symm
 subst y;have B:q=(e.BO,0,true):=by have:=R.ir;rw[N.nwS.ir]at this;exact(Option.some.inj this).symm
 subst B;rw[N.nwX]at a;have h:x=(⟨e,[],[],1⟩,0):=by
  have g:svF ⟨e,[],[],0⟩ (e,true)=0:=by
   unfold svF;rw[AW ⟨N.nwO,rfl⟩];dsimp only;rw[N.nwL,N.nwQ];rfl
  rw[a];unfold ALt;rw[g];dsimp only;rw[N.nwL];rfl
 unfold Dr;simp only[E,ek,G,h,AB,Ce,zf,AHm fw,oI fw,oI c,APe N,AV,BK,BP,Bb];rfl
end Lv.P
