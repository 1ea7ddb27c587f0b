/- Plain laws about what the program computes. -/
import Derived.Test.YtcmjfplpdjflnaaGreatPQb
import Derived.Test.YtcmjfplpdjflnaaGreatPSb
set_option linter.unusedVariables false
set_option linter.unusedSimpArgs false
set_option linter.unusedSectionVars false
open Nat renaming le_trans->Aw
namespace Lv.P
open Lv Go
def Sml(B:Nat)(s:Bk):Prop:=s.Log.Data.length<=B/\s.EZ.Data.length<=B/\s.Odd.Data.length<=B
theorem Sml.pu3{B:Nat}{s:Bk}(h:Sml B s){a:Bl}(c:a.Data.length<=B)(k:Int):Sml B (WT s k a):=by
 unfold WT;split
 .exact⟨h.1,c,h.2.2⟩
 .exact⟨h.1,h.2.1,c⟩
theorem Sml.sl3{B:Nat}{s:Bk}(h:Sml B s)(k:Int):(Gx s k).Data.length<=B:=by
 unfold Gx;split
 .exact h.2.1
 .exact h.2.2
theorem vM{B:Nat}(hB:20000<=B){a:Bl}(h:a.Data.length<=B)(s:List UInt8):(H8 a s).1.Data.length<=B:=by
 grind[H8,List.length_append]
theorem kZ{e:A7}(a:Cf e)(p:Int):∃r,m0 e p=some r/\Cf r.1/\r.1.Laid=e.Laid/\(Sml 30000 e.Bg->Sml 30000 r.1.Bg):=by
 obtain⟨r,h,_,c⟩:=S7 a p;refine⟨r,h,c,?_⟩;obtain⟨n,g,y,B⟩:=Td e.Bg;obtain⟨r',j,E,_⟩:=I9 e.Bg n;have q:=jv a (w64 (1-n));unfold m0 RG Oi at h;simp only[IU a,Hw a,GB,AB,AV,g,Nr,Wn,LA a.FN,R5 (Aw (Mi e.A2 e.Seq) (by omega)),Sr,j,Wm a.log,oI,B7]at h
 repeat' split at h
 all_goals cases h
 all_goals refine⟨rfl,fun hS=>?_⟩
 all_goals first|exact hS|exact hS.pu3 (by simp) _|exact hS.pu3 (vM (by omega) (hS.sl3 _) _) _|exact hS.pu3 (by rw[QT];exact hS.sl3 _) _|exact Sml.pu3 (s:=⟨(R3 e.Bg.Log _).1,e.Bg.EZ,e.Bg.Odd⟩) ⟨Aw (oH _ _) hS.1,hS.2⟩ (hS.sl3 _) _
theorem AKC{e:A7}(j:Cf e)(p:Int):∃r,gQ e p=some r/\Cf r.1/\r.1.Laid=e.Laid/\(Sml 30000 e.Bg->Sml 30000 r.1.Bg):=by
 unfold gQ;rw[IU j,AB];refine J9 (fun x:Int×A7=>0<=x.1/\x.1<=4/\Cf x.2/\x.2.Laid=e.Laid/\(Sml 30000 e.Bg->Sml 30000 x.2.Bg)) (fun x=>(4-x.1).toNat) (fun r:A7×Bool=>Cf r.1/\r.1.Laid=e.Laid/\(Sml 30000 e.Bg->Sml 30000 r.1.Bg)) ?_ big (0,e) ⟨by omega,by omega,j,rfl,id⟩ (Il _ (by simp));rintro L ⟨i,x⟩ ⟨y,B,c,a,hS⟩ q;unfold RL gR;dsimp only at y B c a hS q ⊢;rw[Rh,AB,BQ];by_cases g:i<(if p<4 then p else 4)
 .have J:i<4:=by split at g<;>omega
  rw[AX g];obtain⟨r,E,G,H,I⟩:=kZ c i;rw[E,AB,BB];cases r.2 with
  |false=>exact⟨(x,false),rfl,c,a,hS⟩|true=>
   rw[BK,Ah (by omega) (by omega)];exact q (i+1,r.1) ⟨by omega,by omega,G,H.trans a,fun h=>I (hS h)⟩ (by dsimp only;omega)
 .rw[AU g,AV];exact⟨(x,true),rfl,c,a,hS⟩
end Lv.P
