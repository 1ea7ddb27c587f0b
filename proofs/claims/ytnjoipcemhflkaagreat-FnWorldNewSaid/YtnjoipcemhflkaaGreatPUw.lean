/- Plain laws about what the program computes. -/
import Derived.Test.YtnjoipcemhflkaaGreatKIw
import Derived.Test.YtnjoipcemhflkaaGreatPTw
set_option linter.unusedVariables false
set_option linter.unusedSimpArgs false
set_option linter.unusedSectionVars false
open Bool renaming and_eq_true->AF
open Int renaming toNat_natCast->Ac
open List renaming length_cons->AI,length_map->Af,length_nil->AP,take_length->DP
namespace Lv.P
open Lv Go
theorem AIy{c:Ax}(a:C6 c):∃x,AKv c=some x/\x.1.AY.length<=5/\C6 x.2:=by
 unfold AKv Aj2;obtain⟨r,er,lr,_,cr⟩:=AVQ a;obtain⟨k,ek,ck,_⟩:=Yg cr (l:=[0,-1,61,13,11,9,7,6,5,4,9223372036854775807,-9223372036854775808]) (by simp);obtain⟨m,em,_,_,_,cm⟩:=DI ck 20;rw[er,AB,ek,AB,em,AB];rw[B8 (by simp only[AI,AP];unfold lim;omega)];obtain⟨w,ew,w0,_,w1,cw⟩:=DI cm 6;have e:0<=w.1/\w.1<=(([60,1,2,3,4]:List Int).length:Int):=by
  have:=w1 (by omega);simp only[AI,AP];omega
 rw[Bi];split
 .rw[AV];exact⟨_,rfl,by simp only[List.length_append,AI,AP];omega,cm⟩
 rw[Bi];split
 .rw[AV];exact⟨_,rfl,by dsimp only;omega,cm⟩
 rw[Bi];split
 .rw[AV];exact⟨_,rfl,by dsimp only;omega,cm⟩
 rw[Bi];split
 .rw[AV];exact⟨_,rfl,by dsimp only;omega,cm⟩
 rw[Bi];split
 .rw[AV];exact⟨_,rfl,by dsimp only;omega,cm⟩
 rw[Bi];split
 .rw[AV];exact⟨_,rfl,by dsimp only;omega,cm⟩
 rw[Bi];split
 .rw[AV];exact⟨_,rfl,by dsimp only;omega,cm⟩
 rw[Bi];split
 .rw[AV];exact⟨_,rfl,by dsimp only;omega,cm⟩
 rw[Bi];split
 .rw[AV];exact⟨_,rfl,by dsimp only;omega,cm⟩
 rw[Bi];split
 .rw[ew,AB,B8 (by simp only[AI,AP]at e ⊢;omega),AV];exact⟨_,rfl,Nat.le_trans (List.length_take_le' _ _) (by simp),cw⟩
 .rw[AV];exact⟨_,rfl,by dsimp only;omega,cm⟩
theorem AAM{n:Int}(c:1<=n)(e:n<=60):Gb n=(⟨⟨n,0,0,n,0⟩,[],⟨List.replicate 9 []⟩⟩,true):=by
 have a:Ed ⟨n,0,0,n,0⟩=true:=by
  unfold Ed;simp only[AF,CA,beq_iff_eq,show w64 (0+0)=0 from rfl];rw[A2 (by omega) (by omega)];omega
 unfold Gb LX;rw[AW a];rfl
theorem ADd{r:Aa}(a:Dz r=true):(DU r).2=true/\RH (DU r).1:=by
 have e:=CI a;unfold DU;rw[AW a];refine⟨rfl,⟨a,by dsimp only;omega,by dsimp only;omega,by simp,⟨by simp,by simp,.nil,.nil⟩,?_,rfl,?_,?_⟩⟩
 .intro i hi;simp only[Af]at hi;simp only[List.getElem_map];have c:=e.2.2.2.2.2.1 _ (List.getElem_mem hi);rw[AAM c.1 c.2];refine⟨rfl,rfl,?_,rfl,rfl,?_,?_⟩
  .simp[List.getD_eq_getElem?_getD,List.getElem?_eq_getElem hi]
  .unfold Ed;simp only[AF,CA,beq_iff_eq,show w64 (0+0)=0 from rfl];rw[A2 (by omega) (by omega)];omega
  .show (0:Int)<=_;omega
 .unfold JX;rw[List.all_eq_true];intro x g;rw[(List.mem_replicate.1 g).2,CA,Af,A2 (by omega) (by omega)];omega
 .dsimp only;rw[List.length_replicate];omega
theorem NT{a:Bp}(h:Fz a=true)(c:a.Safe=a.Data.length)(p:Int):TE a p=a:=by
 have e:sS a p=a.Data.length:=by
  unfold sS;split
  .exact c
  .split<;>omega
 unfold TE;rw[AW h,e,Ac,DP,<-c]
structure AZN(r:Aa)(e:Ap):Prop where
 nwN:FW r=(e,true)
 nwH:e.BO=(DU r).1
 nwR:e.BO.AQ=r
 nwB:DD e.BO=true
 nwF:Cc e
 nwO:D7 e=true
 nwQ:e.Seq=0
 nwL:e.Laid=[]
 nwG:e.BH.Log=⟨[],0⟩
 nwV:e.BH.DW=⟨HU e.BO 0,((HU e.BO 0).length:Int)⟩
 nwD:e.BH.Odd=⟨[],0⟩
 nwC:Ni e.BH=true
 nwS:Vz e.BH 0 (e.BO,0,true)
 nwT:Lh e.BH 0 (e.BO,0,true)=(e.BO,0,true)
 nwU:MT e.BH 0 (e.BO,0,true)=0
 nwX:FP e.BH 0 (e.BO,0,true)=(e,true)
 nwY:∀l,HA e.BH l=e.BH
theorem AbF{r:Aa}(I:r.AY.length<=1048576)(E:Dz r=true):∃e,AZN r e:=by
 have fe:=Ug I;obtain⟨S,J⟩:=ADd E;have a:=GW.2 J;have G:=JM I;have hT:=JP (DU r).1 0;have hE:FW r=(⟨(DU r).1,⟨⟨[],0⟩,⟨HU (DU r).1 0,((HU (DU r).1 0).length:Int)⟩,⟨[],0⟩⟩,0,[]⟩,true):=by unfold FW;rw[AW S]
 have hR:(DU r).1.AQ=r:=by unfold DU;rw[AW E]
 rw[hE]at fe;have hread:=APU a G (q:=0) rfl;obtain⟨h,H⟩:∃h,h=(DU r).1:=⟨_,rfl⟩;rw[<-H]at hE hR a G hT fe hread J;generalize hTT:HU h 0=T at hE hT fe hread;have hA:Fz ⟨T,(T.length:Int)⟩=true:=IT.2 ⟨by dsimp only;omega,by dsimp only;omega,by dsimp only;omega⟩;have y:Fz ⟨[],0⟩=true:=rfl;have g:II ⟨⟨[],0⟩,⟨T,(T.length:Int)⟩,⟨[],0⟩⟩=true:=by unfold II;simp[hA,y]
 have B:D7 ⟨h,⟨⟨[],0⟩,⟨T,(T.length:Int)⟩,⟨[],0⟩⟩,0,[]⟩=true:=by
  unfold D7;simp only[a,g,Bool.true_and];rfl
 have L:AJ9 ⟨⟨[],0⟩,⟨T,(T.length:Int)⟩,⟨[],0⟩⟩ 0=some (h,0,true):=by
  unfold AJ9;rw[Og,AB,GN,AB,show E7 ⟨⟨[],0⟩,⟨T,(T.length:Int)⟩,⟨[],0⟩⟩ 0=⟨T,(T.length:Int)⟩ from rfl,hA,BK,BP,B8 (by dsimp only;omega),Ac,DP,hread,AB]
 have s1:AJ9 ⟨⟨[],0⟩,⟨T,(T.length:Int)⟩,⟨[],0⟩⟩ 1=some (K5,0,false):=by
  unfold AJ9;rw[Og,AB,GN,AB,show E7 ⟨⟨[],0⟩,⟨T,(T.length:Int)⟩,⟨[],0⟩⟩ 1=⟨[],0⟩ from rfl,y,BK,BP,B8 (by simp),show List.take (Int.toNat 0) ([]:List UInt8)=[] from rfl,AIr,AB]
 have hN:ABz ⟨⟨[],0⟩,⟨T,(T.length:Int)⟩,⟨[],0⟩⟩=some 0:=by
  unfold ABz;rw[L,s1,AB,AB];unfold AmC iI;simp[Bi,AV]
 obtain⟨n,q,R⟩:=yw ⟨⟨[],0⟩,⟨T,(T.length:Int)⟩,⟨[],0⟩⟩;have O:n=0:=by have:=R.im;rw[hN]at this;exact(Option.some.inj this).symm
 subst O;have Q:q=(h,0,true):=by have:=R.ir;rw[L]at this;exact(Option.some.inj this).symm
 subst Q;have j:Dx ([]:List UInt8)=[]:=List.length_eq_zero_iff.1 (by have:=J6 [];simpa using this);have c:Lh ⟨⟨[],0⟩,⟨T,(T.length:Int)⟩,⟨[],0⟩⟩ 0 (h,0,true)=(h,0,true):=by
  unfold Lh;rw[AW ⟨g,by omega⟩,j];rfl
 have hused:MT ⟨⟨[],0⟩,⟨T,(T.length:Int)⟩,⟨[],0⟩⟩ 0 (h,0,true)=0:=by
  unfold MT;rw[AW ⟨g,by omega⟩,j];rfl
 have hcalm:Ni ⟨⟨[],0⟩,⟨T,(T.length:Int)⟩,⟨[],0⟩⟩=true:=by simp[Ni]
 have hboot:FP ⟨⟨[],0⟩,⟨T,(T.length:Int)⟩,⟨[],0⟩⟩ 0 (h,0,true)=(⟨h,⟨⟨[],0⟩,⟨T,(T.length:Int)⟩,⟨[],0⟩⟩,0,[]⟩,true):=by
  unfold FP;rw[c,hused,AW ⟨rfl,hcalm⟩];rfl
 have hfall:∀l,HA ⟨⟨[],0⟩,⟨T,(T.length:Int)⟩,⟨[],0⟩⟩ l=⟨⟨[],0⟩,⟨T,(T.length:Int)⟩,⟨[],0⟩⟩:=by
  intro l;unfold HA;dsimp only;rw[NT y rfl,NT hA rfl,NT y rfl]
 exact⟨_,hE,H,hR,a,fe,B,rfl,rfl,rfl,by rw[hTT],rfl,hcalm,R,c,hused,hboot,hfall⟩
end Lv.P
