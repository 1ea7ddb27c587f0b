/- Plain laws about what the program computes. -/
import Derived.Test.YtnjoipcemhflkaaGreatPOc
import Derived.Test.YtnjoipcemhflkaaGreatPGc
set_option linter.unusedVariables false
set_option linter.unusedSimpArgs false
set_option linter.unusedSectionVars false
open Bool renaming not_true->Bp
open Nat renaming le_trans->Ar
namespace Lv.P
open Lv Go
theorem ax(s:CN):∃c,xH s=some c/\M5 s=some c/\(c = -1\/c=0\/c=1):=by
 obtain⟨r,j,q,_⟩:=LY s 0;obtain⟨a,y,B,_⟩:=LY s 1;unfold xH M5 WB MS Jf;rw[j,q,y,B,AB,AB,AB,AB];cases g:r.2.2<;>cases h:a.2.2<;>simp only[BN,BP,BS,AT,g,h,Bp,Bool.not_false]
 .grind
 .exact⟨_,rfl,rfl,by decide⟩
 .exact⟨_,rfl,rfl,by decide⟩
 .by_cases e:r.2.1>=a.2.1
  .rw[show decide (r.2.1>=a.2.1)=true from decide_eq_true e,show decide (a.2.1>r.2.1)=false from decide_eq_false (by omega)];exact⟨_,rfl,rfl,by decide⟩
  .rw[show decide (r.2.1>=a.2.1)=false from decide_eq_false e,show decide (a.2.1>r.2.1)=true from decide_eq_true (by omega)];exact⟨_,rfl,rfl,by decide⟩
def W5(s:CN)(k:Int)(a:CH):CN:=if (k.tmod 2==0)=true then ⟨s.Log,a,s.Odd⟩ else ⟨s.Log,s.GG,a⟩
theorem XN(s:CN)(k:Int)(a:CH):AFQ s k a=some (W5 s k a):=by unfold AFQ W5;rw[Bb,AT,AT];split<;>rfl
theorem rN(s:CN)(k:Int)(a:CH):IZ s k a=some (W5 s k a):=by unfold IZ W5;rw[Bb,AT,AT];split<;>rfl
theorem Yo(s:CN)(l:CH)(k:Int):W5 ⟨l,s.GG,s.Odd⟩ k (H9 s k)=⟨l,s.GG,s.Odd⟩:=by unfold W5 H9;split<;>rfl
noncomputable def Su(a:CH)(p:Int):CH×Bool:=if KI a=true/\inB p 0 a.Data.length=true/\a.Safe=a.Data.length then (⟨a.Data.drop p.toNat,(a.Data.length:Int)-p⟩,true) else (a,false)
theorem nH(a:CH)(p:Int):AFP a p=some (Su a p):=by
 grind[AFP,WW,Su,MN,AB,GC,AT,Bb,KI,inB,Bt,A4]
theorem AHK(a:CH)(p:Int):Ru a p=some (Su a p):=by
 grind[Ru,KW,Su,MD,AB,FE,AT,Bb,KI,inB,Bt,A4]
theorem AJA{a:CH}{p:Int}(h:(Su a p).2=false):(Su a p).1=a:=by unfold Su at h ⊢;grind
theorem nE(a:CH)(p:Int):(Su a p).1.Data.length<=a.Data.length:=by unfold Su;split<;>simp
theorem tz{a:CH}{s:List UInt8}(h:(GP a s).2=false):(GP a s).1=a:=by unfold GP at h ⊢;grind
theorem jK{e:Ap}(a:CR e)(k:Int):(H9 e.Bi k).Data.length<=1048576:=by unfold H9;split;exact a.even;exact a.odd
theorem sT{e:Ap}(c:CR e){k:Int}{a:CH}(h:a.Data.length<=1048576):CR ⟨e.BU,W5 e.Bi k a,e.Seq,e.Laid⟩:=by
 unfold W5;split<;>exact⟨c.EN,c.log,by first|exact h|exact c.even,by first|exact h|exact c.odd,c.laid⟩
theorem jo{e:Ap}(a:CR e)(p:Int):∃r,lr e p=some r/\RV e p=some r/\CR r.1:=by
 obtain⟨n,B,E,J⟩:=ax e.Bi;obtain⟨r,G,H,_⟩:=LY e.Bi n;unfold lr RV;rw[LG a,QV a,E,Lf a,Lb a,GC,Wr,show w64 (4-1)=3 from rfl];simp only[AB,AT];cases I:GV e with
 |false=>exact⟨(e,false),rfl,rfl,a⟩|true=>
 simp only[Bp,BS];by_cases j:(e.Laid.length:Int)>0
 .rw[decide_eq_true j];exact⟨(e,false),rfl,rfl,a⟩
 rw[decide_eq_false j,BS,BS];cases hi:inB p 0 3 with
 |false=>exact⟨(e,false),rfl,rfl,a⟩|true=>
 simp only[Bp,BS];unfold SI Fq Pg Fs;rw[BS,B,AB];by_cases q:n<0
 .rw[decide_eq_true q,BP,BP];exact⟨(e,false),rfl,rfl,a⟩
 have g:=jK a (w64 (1-n));have c:=fun s=>ZW (s:=s) g
 simp only[decide_eq_false q,BS,S6,Za,AB,XN,rN,AT,Lg a.EN,UB a.EN,Sw (Ar (NU e.BU e.Seq) (by omega)),c _ (Ar (NU e.BU e.Seq) (by omega)),Yx,mO,G,H,XM a.log,rL a.log,nH,AHK,LG a,BN,BP];have y:∀k,W5 e.Bi k (H9 e.Bi k)=e.Bi:=fun k=>Yo e.Bi e.Bi.Log k
 cases p==0 with
 |true=>exact⟨_,rfl,rfl,sT a (by simp)⟩|false=>
 rw[BS,BS];cases p==1 with
 |true=>
  rw[BP,BP];cases h:(GP (H9 e.Bi (w64 (1-n))) (On e.BU e.Seq)).2 with
  |true=>exact⟨_,rfl,rfl,sT a (Y7 g)⟩|false=>exact⟨(e,false),rfl,by rw[tz h,y],a⟩
 |false=>
 rw[BS,BS];cases p==2 with
 |true=>exact⟨_,rfl,rfl,sT a (by rw[RJ];exact g)⟩|false=>
 rw[BS,BS];cases h:(Su e.Bi.Log (AAV r.2.1 0 (LL e.Bi.Log.Data))).2 with
 |true=>exact⟨_,rfl,by rw[Yo],by dsimp only;rw[Yo];exact⟨a.EN,Ar (nE _ _) a.log,a.even,a.odd,a.laid⟩⟩|false=>exact⟨(e,false),rfl,by rw[AJA h],a⟩
structure AV1(s:CN)(n:Int)(q:AE×Int×Bool):Prop where
 sn:xH s=some n
 im:M5 s=some n
 sr:dw s n=some q
 ir:GK s n=some q
 fit:Bf q.1
 lo:0<=q.2.1
 hi:q.2.1<=1000000
noncomputable def used:Int->Int->List Ck->Int|_,e,[]=>e|v,e,f::l=>if f.Seq<=v then used v f.Next l else if f.Seq=v+1/\(AUd f.Body).2=true then used (v+1) f.Next l else e
end Lv.P
