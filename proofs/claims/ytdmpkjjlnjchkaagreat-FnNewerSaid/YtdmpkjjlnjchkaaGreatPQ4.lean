/- Plain laws about what the program computes. -/
import Derived.Test.YtdmpkjjlnjchkaaGreatPO4
import Derived.Test.YtdmpkjjlnjchkaaGreatPG4
set_option linter.unusedVariables false
set_option linter.unusedSimpArgs false
set_option linter.unusedSectionVars false
open Bool renaming not_true->Br
open Nat renaming le_trans->Au
namespace Lv.P
open Lv Go
theorem Ut(s:Bb):∃c,nG s=some c/\AYO s=some c/\(c = -1\/c=0\/c=1):=by
 obtain⟨r,j,q,_⟩:=HX s 0;obtain⟨a,y,B,_⟩:=HX s 1;unfold nG AYO A3G Ais Aj1;rw[j,q,y,B,AB,AB,AB,AB];cases g:r.2.2<;>cases h:a.2.2<;>simp only[BI,BH,BN,AR,g,h,Br,Bool.not_false]
 .grind
 .exact⟨_,rfl,rfl,by decide⟩
 .exact⟨_,rfl,rfl,by decide⟩
 .by_cases e:r.2.1>=a.2.1
  .rw[show decide (r.2.1>=a.2.1)=true from decide_eq_true e,show decide (a.2.1>r.2.1)=false from decide_eq_false (by omega)];exact⟨_,rfl,rfl,by decide⟩
  .rw[show decide (r.2.1>=a.2.1)=false from decide_eq_false e,show decide (a.2.1>r.2.1)=true from decide_eq_true (by omega)];exact⟨_,rfl,rfl,by decide⟩
def jJ(s:Bb)(k:Int)(a:Bu):Bb:=if (k.tmod 2==0)=true then ⟨s.Log,a,s.Odd⟩ else ⟨s.Log,s.Dl,a⟩
theorem jf(s:Bb)(k:Int)(a:Bu):MO s k a=some (jJ s k a):=by unfold MO jJ;rw[BZ,AR,AR];split<;>rfl
theorem AEy(s:Bb)(k:Int)(a:Bu):JU s k a=some (jJ s k a):=by unfold JU jJ;rw[BZ,AR,AR];split<;>rfl
theorem mU(s:Bb)(l:Bu)(k:Int):jJ ⟨l,s.Dl,s.Odd⟩ k (Gz s k)=⟨l,s.Dl,s.Odd⟩:=by unfold jJ Gz;split<;>rfl
noncomputable def Zy(a:Bu)(p:Int):Bu×Bool:=if Gn a=true/\inB p 0 a.Data.length=true/\a.Safe=a.Data.length then (⟨a.Data.drop p.toNat,(a.Data.length:Int)-p⟩,true) else (a,false)
theorem AC8(a:Bu)(p:Int):ARN a p=some (Zy a p):=by
 grind[ARN,A9j,Zy,IT,AB,Gv,AR,BZ,Gn,inB,B9,Ai]
theorem AVG(a:Bu)(p:Int):Wy a p=some (Zy a p):=by
 grind[Wy,Lb,Zy,GY,AB,Fs,AR,BZ,Gn,inB,B9,Ai]
theorem AW8{a:Bu}{p:Int}(h:(Zy a p).2=false):(Zy a p).1=a:=by unfold Zy at h ⊢;grind
theorem AC4(a:Bu)(p:Int):(Zy a p).1.Data.length<=a.Data.length:=by unfold Zy;split<;>simp
theorem AGo{a:Bu}{s:List UInt8}(h:(G0 a s).2=false):(G0 a s).1=a:=by unfold G0 at h ⊢;grind
theorem zL{e:Ae}(a:CW e)(k:Int):(Gz e.BO k).Data.length<=1048576:=by unfold Gz;split;exact a.even;exact a.odd
theorem AFr{e:Ae}(c:CW e){k:Int}{a:Bu}(h:a.Data.length<=1048576):CW ⟨e.BD,jJ e.BO k a,e.Seq,e.Laid⟩:=by
 unfold jJ;split<;>exact⟨c.EL,c.log,by first|exact h|exact c.even,by first|exact h|exact c.odd,c.laid⟩
theorem z7{e:Ae}(a:CW e)(p:Int):∃r,ARO e p=some r/\WS e p=some r/\CW r.1:=by
 obtain⟨n,B,E,J⟩:=Ut e.BO;obtain⟨r,G,H,_⟩:=HX e.BO n;unfold ARO WS;rw[Mi a,U1 a,E,Ga a,Hb a,Gv,iv,show w64 (4-1)=3 from rfl];simp only[AB,AR];cases I:Ef e with
 |false=>exact⟨(e,false),rfl,rfl,a⟩|true=>
 simp only[Br,BN];by_cases j:(e.Laid.length:Int)>0
 .rw[decide_eq_true j];exact⟨(e,false),rfl,rfl,a⟩
 rw[decide_eq_false j,BN,BN];cases hi:inB p 0 3 with
 |false=>exact⟨(e,false),rfl,rfl,a⟩|true=>
 simp only[Br,BN];unfold Ata Gr AkG Gs;rw[BN,B,AB];by_cases q:n<0
 .rw[decide_eq_true q,BH,BH];exact⟨(e,false),rfl,rfl,a⟩
 have g:=zL a (w64 (1-n));have c:=fun s=>nV (s:=s) g
 simp only[decide_eq_false q,BN,Rk,Ra,AB,jf,AEy,AR,NQ a.EL,TB a.EL,Z3 (Au (J3 e.BD e.Seq) (by omega)),c _ (Au (J3 e.BD e.Seq) (by omega)),aw,lj,G,H,je a.log,AEv a.log,AC8,AVG,Mi a,BI,BH];have y:∀k,jJ e.BO k (Gz e.BO k)=e.BO:=fun k=>mU e.BO e.BO.Log k
 cases p==0 with
 |true=>exact⟨_,rfl,rfl,AFr a (by simp)⟩|false=>
 rw[BN,BN];cases p==1 with
 |true=>
  rw[BH,BH];cases h:(G0 (Gz e.BO (w64 (1-n))) (IS e.BD e.Seq)).2 with
  |true=>exact⟨_,rfl,rfl,AFr a (mu g)⟩|false=>exact⟨(e,false),rfl,by rw[AGo h,y],a⟩
 |false=>
 rw[BN,BN];cases p==2 with
 |true=>exact⟨_,rfl,rfl,AFr a (by rw[Q7];exact g)⟩|false=>
 rw[BN,BN];cases h:(Zy e.BO.Log (AM9 r.2.1 0 (E2 e.BO.Log.Data))).2 with
 |true=>exact⟨_,rfl,by rw[mU],by dsimp only;rw[mU];exact⟨a.EL,Au (AC4 _ _) a.log,a.even,a.odd,a.laid⟩⟩|false=>exact⟨(e,false),rfl,by rw[AW8 h],a⟩
structure AGi(s:Bb)(n:Int)(q:AD×Int×Bool):Prop where
 sn:nG s=some n
 im:AYO s=some n
 sr:ARA s n=some q
 ir:ABB s n=some q
 fit:Bp q.1
 lo:0<=q.2.1
 hi:q.2.1<=1000000
noncomputable def used:Int->Int->List B4->Int|_,e,[]=>e|v,e,f::l=>if f.Seq<=v then used v f.Next l else if f.Seq=v+1/\(Qz f.Body).2=true then used (v+1) f.Next l else e
end Lv.P
