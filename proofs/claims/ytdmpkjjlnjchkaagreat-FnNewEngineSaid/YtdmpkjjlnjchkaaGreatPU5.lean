/- Plain laws about what the program computes. -/
import Derived.Test.YtdmpkjjlnjchkaaGreatKI5
import Derived.Test.YtdmpkjjlnjchkaaGreatPT5
set_option linter.unusedVariables false
set_option linter.unusedSimpArgs false
set_option linter.unusedSectionVars false
open Bool renaming and_eq_true->AF
open Int renaming toNat_natCast->Ac
open List renaming length_cons->AH,length_map->Aj,length_nil->AN,take_length->C9
namespace Lv.P
open Lv Go
theorem APq{c:AX}(a:CI c):∃x,AJg c=some x/\x.1.AV.length<=5/\CI x.2:=by
 unfold AJg Aiw;obtain⟨r,er,lr,_,cr⟩:=APp a;obtain⟨k,ek,ck,_⟩:=HV cr (l:=[0,-1,61,13,11,9,7,6,5,4,9223372036854775807,-9223372036854775808]) (by simp);obtain⟨m,em,_,_,_,cm⟩:=CQ ck 20;rw[er,AB,ek,AB,em,AB];rw[B9 (by simp only[AH,AN];unfold lim;omega)];obtain⟨w,ew,w0,_,w1,cw⟩:=CQ cm 6;have e:0<=w.1/\w.1<=(([60,1,2,3,4]:List Int).length:Int):=by
  have:=w1 (by omega);simp only[AH,AN];omega
 rw[BZ];split
 .rw[AR];exact⟨_,rfl,by simp only[List.length_append,AH,AN];omega,cm⟩
 rw[BZ];split
 .rw[AR];exact⟨_,rfl,by dsimp only;omega,cm⟩
 rw[BZ];split
 .rw[AR];exact⟨_,rfl,by dsimp only;omega,cm⟩
 rw[BZ];split
 .rw[AR];exact⟨_,rfl,by dsimp only;omega,cm⟩
 rw[BZ];split
 .rw[AR];exact⟨_,rfl,by dsimp only;omega,cm⟩
 rw[BZ];split
 .rw[AR];exact⟨_,rfl,by dsimp only;omega,cm⟩
 rw[BZ];split
 .rw[AR];exact⟨_,rfl,by dsimp only;omega,cm⟩
 rw[BZ];split
 .rw[AR];exact⟨_,rfl,by dsimp only;omega,cm⟩
 rw[BZ];split
 .rw[AR];exact⟨_,rfl,by dsimp only;omega,cm⟩
 rw[BZ];split
 .rw[ew,AB,B9 (by simp only[AH,AN]at e ⊢;omega),AR];exact⟨_,rfl,Nat.le_trans (List.length_take_le' _ _) (by simp),cw⟩
 .rw[AR];exact⟨_,rfl,by dsimp only;omega,cm⟩
theorem zc{s:List UInt8}(e:s.length<=1048576):∃r,AJi s=some r/\r.AV.length<=5:=by
 unfold AJi;obtain⟨c,ec,a⟩:=Agd e;obtain⟨x,ex,lx,_⟩:=APq a;rw[ec,AB,ex,AB];exact⟨_,rfl,lx⟩
theorem AG1{n:Int}(c:1<=n)(e:n<=60):Gq n=(⟨⟨n,0,0,n,0⟩,[],⟨List.replicate 9 []⟩⟩,true):=by
 have a:Eh ⟨n,0,0,n,0⟩=true:=by
  unfold Eh;simp only[AF,CY,beq_iff_eq,show w64 (0+0)=0 from rfl];rw[Ai (by omega) (by omega)];omega
 unfold Gq M0;rw[if_pos a];rfl
theorem ALd{r:AZ}(a:Dp r=true):(EB r).2=true/\RH (EB r).1:=by
 have e:=CT a;unfold EB;rw[if_pos a];refine⟨rfl,⟨a,by dsimp only;omega,by dsimp only;omega,by simp,⟨by simp,by simp,.nil,.nil⟩,?_,rfl,?_,?_⟩⟩
 .intro i hi;simp only[Aj]at hi;simp only[List.getElem_map];have c:=e.2.2.2.2.2.1 _ (List.getElem_mem hi);rw[AG1 c.1 c.2];refine⟨rfl,rfl,?_,rfl,rfl,?_,?_⟩
  .simp[List.getD_eq_getElem?_getD,List.getElem?_eq_getElem hi]
  .unfold Eh;simp only[AF,CY,beq_iff_eq,show w64 (0+0)=0 from rfl];rw[Ai (by omega) (by omega)];omega
  .show (0:Int)<=_;omega
 .unfold Nq;rw[List.all_eq_true];intro x g;rw[(List.mem_replicate.1 g).2,CY,Aj,Ai (by omega) (by omega)];omega
 .dsimp only;rw[List.length_replicate];omega
theorem mG{a:Bu}(h:Gn a=true)(c:a.Safe=a.Data.length)(p:Int):UF a p=a:=by
 have e:yE a p=a.Data.length:=by
  unfold yE;split
  .exact c
  .split<;>omega
 unfold UF;rw[if_pos h,e,Ac,C9,<-c]
theorem oH{s:List UInt8}(_:okL okT s):Ic s=some true:=by
 unfold Ic;rw[yI,AB,BA];split
 .rfl
 obtain⟨r,er,lr⟩:=zc (s:=s) (by omega);have fe:=bW (r:=r) (by omega);rw[er,AB,ALz (by omega),AB,HS (by omega),AB];cases G:Dp r with
 |false=>
  have:(Ge r).2=false:=by unfold Ge EB;simp[G]
  rw[Bool.not_false,BH,this];rfl
 |true=>
 obtain⟨L,O⟩:=ALd G;have g:=IF.2 O;have e:=Lq (r:=r) (by omega);have hT:=J3 (EB r).1 0;have hE:Ge r=(⟨(EB r).1,⟨⟨[],0⟩,⟨IS (EB r).1 0,((IS (EB r).1 0).length:Int)⟩,⟨[],0⟩⟩,0,[]⟩,true):=by unfold Ge;rw[if_pos L]
 rw[hE]at fe ⊢;have hread:=AXA g e (q:=0) rfl;generalize (EB r).1=h at *;generalize IS h 0=T at *;have hA:Gn ⟨T,(T.length:Int)⟩=true:=LH.2 ⟨by dsimp only;omega,by dsimp only;omega,by dsimp only;omega⟩;have E:Gn ⟨[],0⟩=true:=rfl;have j:KP ⟨⟨[],0⟩,⟨T,(T.length:Int)⟩,⟨[],0⟩⟩=true:=by unfold KP;simp[hA,E]
 have y:Ef ⟨h,⟨⟨[],0⟩,⟨T,(T.length:Int)⟩,⟨[],0⟩⟩,0,[]⟩=true:=by
  unfold Ef;simp only[g,j,Bool.true_and];rfl
 have H:AAy ⟨⟨[],0⟩,⟨T,(T.length:Int)⟩,⟨[],0⟩⟩ 0=some (h,0,true):=by
  unfold AAy;rw[Ra,AB,GY,AB,show Gz ⟨⟨[],0⟩,⟨T,(T.length:Int)⟩,⟨[],0⟩⟩ 0=⟨T,(T.length:Int)⟩ from rfl,hA,BI,BH,B9 (by dsimp only;omega),Ac,C9,hread,AB]
 have s1:AAy ⟨⟨[],0⟩,⟨T,(T.length:Int)⟩,⟨[],0⟩⟩ 1=some (MI,0,false):=by
  unfold AAy;rw[Ra,AB,GY,AB,show Gz ⟨⟨[],0⟩,⟨T,(T.length:Int)⟩,⟨[],0⟩⟩ 1=⟨[],0⟩ from rfl,E,BI,BH,B9 (by simp),show List.take (Int.toNat 0) ([]:List UInt8)=[] from rfl,APc,AB]
 have hN:AQe ⟨⟨[],0⟩,⟨T,(T.length:Int)⟩,⟨[],0⟩⟩=some 0:=by
  unfold AQe;rw[H,s1,AB,AB];unfold BJp Avr;simp[BZ,AR]
 obtain⟨n,q,R⟩:=da ⟨⟨[],0⟩,⟨T,(T.length:Int)⟩,⟨[],0⟩⟩;have I:n=0:=by have:=R.im;rw[hN]at this;exact(Option.some.inj this).symm
 subst I;have J:q=(h,0,true):=by have:=R.ir;rw[H]at this;exact(Option.some.inj this).symm
 subst J;have B:E2 ([]:List UInt8)=[]:=List.length_eq_zero_iff.1 (by have:=Mj [];simpa using this);have c:V7 ⟨⟨[],0⟩,⟨T,(T.length:Int)⟩,⟨[],0⟩⟩ 0 (h,0,true)=(h,0,true):=by
  unfold V7;rw[if_pos ⟨j,by omega⟩,B];rfl
 have hused:jt ⟨⟨[],0⟩,⟨T,(T.length:Int)⟩,⟨[],0⟩⟩ 0 (h,0,true)=0:=by
  unfold jt;rw[if_pos ⟨j,by omega⟩,B];rfl
 have hcalm:m0 ⟨⟨[],0⟩,⟨T,(T.length:Int)⟩,⟨[],0⟩⟩=true:=by simp[m0]
 have hboot:my ⟨⟨[],0⟩,⟨T,(T.length:Int)⟩,⟨[],0⟩⟩ 0 (h,0,true)=(⟨h,⟨⟨[],0⟩,⟨T,(T.length:Int)⟩,⟨[],0⟩⟩,0,[]⟩,true):=by
  unfold my;rw[c,hused,if_pos ⟨rfl,hcalm⟩];rfl
 have hfall:∀l,Np ⟨⟨[],0⟩,⟨T,(T.length:Int)⟩,⟨[],0⟩⟩ l=⟨⟨[],0⟩,⟨T,(T.length:Int)⟩,⟨[],0⟩⟩:=by
  intro l;unfold Np;dsimp only;rw[mG E rfl,mG hA rfl,mG E rfl]
 have a:([]:List UInt8).length<=1048576:=by simp
 have hsame:=zE e g;have hsameI:ABe h h=some true:=by rw[Qf e e,<-Q6 e e,hsame]
 have hsound:tM ⟨h,⟨⟨[],0⟩,⟨T,(T.length:Int)⟩,⟨[],0⟩⟩,0,[]⟩=some true:=by
  unfold tM cz gG;simp only[Hb fe,y,AB,ZN,hfall,(recovered a R).2.1,c,Vh e (l:=[]) (by simp),JZ,hsameI,aW a R,hused,AR];rfl
 unfold G3 EY;simp only[Ga fe,y,AB,AC6,hcalm,AR,(AfY a (by dsimp only;omega) (by simp) R).2.1,hboot,hsame,hsound];simp[BZ]
end Lv.P
