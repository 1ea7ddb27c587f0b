/- Plain laws about what the program computes. -/
import Derived.Test.YtnjoipcemhflkaaGreatPGb
import Derived.Test.YtnjoipcemhflkaaGreatPKb
set_option linter.unusedVariables false
set_option linter.unusedSimpArgs false
set_option linter.unusedSectionVars false
open Bool renaming and_true->CP,not_true->Bs
open Int renaming eq_ofNat_of_zero_le->AX
open Nat renaming lt_or_ge->AZ
namespace Lv.P
open Lv Go
theorem AP0(a:Int):0<=dw a 255/\dw a 255<=255:=by
 unfold dw;have e:(BitVec.ofInt IntKind.i64.bits 255).toNat=255:=rfl
 grind[BitVec.toNat_and,BitVec.ofInt,Nat.and_le_right,UP]
theorem ADr(s:List UInt8):ABp s=some (decide ((s.length:Int)>1048576)):=rfl
def C6(c:Ax):Prop:=0<=c.i_/\c.i_<=c.b_.length/\c.b_.length<=1048576
theorem AZ7{s:List UInt8}(a:s.length<=1048576):∃c,ABr s=some c/\C6 c:=by
 unfold ABr;refine Pz (n:=s.length) (fun i (v:Int)=>(v,(i:Int))) (fun _ _=>True) C6 (by omega) ?_ trivial;intro L i v _ hi e;unfold Af0 Pn gy;dsimp only;simp only[AV,dec_lt];rcases AZ i s.length with h|h
 .rw[decide_eq_true h,BP,BQ,BG h,AB,Bn h (by omega)];split
  .exact e _ trivial h
  .exact⟨_,rfl,by simp,by simp,a⟩
 .rw[decide_eq_false (by omega),Bb,Bb];exact⟨_,rfl,by simp,by simp,a⟩
theorem tY{c:Ax}(j:C6 c):∃r,gz c=some r/\0<=r.1/\r.1<=255/\C6 r.2:=by
 obtain⟨a,g,e⟩:=j;unfold gz Ada;rw[BQ];obtain⟨i,hi⟩:=AX a;split
 .rename_i h;rw[hi,BG (by omega),AB,AV];have:=AP0 (w64 (dw (UY (D4 (w64 (w64 (c.h_*6364136223846793005)+1442695040888963407)) 33) (D4 (w64 (w64 (c.h_*6364136223846793005)+1442695040888963407)) 45)) 255+w64 (↑(UInt8.toNat c.b_[i]):Int)));refine⟨_,rfl,this.1,this.2,?_⟩;rw[A2 (n:=(i:Int)+1) (by omega) (by omega)];exact⟨by dsimp only;omega,by dsimp only;omega,e⟩
 .rw[AV];have:=AP0 (UY (D4 (w64 (w64 (c.h_*6364136223846793005)+1442695040888963407)) 33) (D4 (w64 (w64 (c.h_*6364136223846793005)+1442695040888963407)) 45));exact⟨_,rfl,this.1,this.2,a,g,e⟩
theorem Vt{a n:Int}(c:0<=a)(e:0<n):0<=Int.tmod a n/\Int.tmod a n<n:=by
 rw[Int.tmod_eq_emod_of_nonneg c];exact⟨Int.emod_nonneg _ (by omega),Int.emod_lt_of_pos _ e⟩
theorem DI{c:Ax}(q:C6 c)(n:Int):∃r,ABs c n=some r/\0<=r.1/\(n<=0->r.1=0)/\(0<n->r.1<n)/\C6 r.2:=by
 unfold ABs;rw[BQ];by_cases y:n<=0
 .rw[AW y];exact⟨_,rfl,by simp,by simp,by omega,q⟩
 rw[AR y,BQ];split
 .obtain⟨r,e,S,h2,h3⟩:=tY q;rw[e,AB,B8 (by omega)];have:=Vt S (show 0<n by omega)
  grind
 .obtain⟨g,J,X,Z,E⟩:=tY q;obtain⟨h,L,Y,b2,G⟩:=tY E;obtain⟨j,O,a3,b3,H⟩:=tY G;obtain⟨B,Q,a4,b4,I⟩:=tY H;rw[J,AB,L,AB,O,AB,Q,AB,B8 (by omega)];rw[A2 (n:=g.1*16777216) (by omega) (by omega),A2 (n:=h.1*65536) (by omega) (by omega),A2 (n:=j.1*256) (by omega) (by omega)];rw[A2 (n:=g.1*16777216+h.1*65536) (by omega) (by omega),A2 (n:=g.1*16777216+h.1*65536+j.1*256) (by omega) (by omega),A2 (n:=g.1*16777216+h.1*65536+j.1*256+B.1) (by omega) (by omega)];have:=Vt (a:=g.1*16777216+h.1*65536+j.1*256+B.1) (by omega) (show 0<n by omega);exact⟨_,rfl,this.1,by omega,fun _=>this.2,I⟩
theorem U4{c:Ax}(a:C6 c)(n:Int):∃r,AJ5 c n=some r/\C6 r.2:=by
 obtain⟨r,e,_,_,_,h⟩:=DI a n;unfold AJ5;rw[e,AB];exact⟨_,rfl,h⟩
theorem Yg{c:Ax}(a:C6 c){l:List Int}(g:l≠[]):∃r,AJ9 c l=some r/\C6 r.2/\r.1∈l:=by
 unfold AJ9;have B:0<l.length:=by cases l with|nil=>exact absurd rfl g|cons=>simp
 obtain⟨r,e,h,j,q,y⟩:=DI a (l.length:Int)
 grind[Int.eq_ofNat_of_zero_le,AB,BG,List.getElem_mem]
theorem AVQ{c:Ax}(e:C6 c):∃r,rH c=some r/\r.1.AY.length<=3/\Dz r.1=true/\C6 r.2:=by
 unfold rH;obtain⟨r1,j,X,Y,a,g⟩:=DI e 5;obtain⟨r2,e2,a2,b2,B,Z⟩:=DI g 9;obtain⟨r3,e3,a3,b3,E,c3⟩:=DI Z 6;obtain⟨r4,e4,a4,b4,G,c4⟩:=DI c3 5;obtain⟨r5,e5,a5,b5,H,c5⟩:=DI c4 4;obtain⟨r6,e6,a6,b6,I,c6⟩:=DI c5 4;obtain⟨r7,e7,a7,b7,J,c7⟩:=DI c6 4;obtain⟨r8,e8,a8,b8,O,c8⟩:=DI c7 3;obtain⟨q,e9,a9,b9,d9,c9⟩:=DI c8 3;simp only[j,e2,e3,e4,e5,e6,e7,e8,e9,AB];have a:=a (by omega);have B:=B (by omega);have E:=E (by omega);have G:=G (by omega);have H:=H (by omega);have I:=I (by omega);have J:=J (by omega);have O:=O (by omega);have h9:=d9 (by omega);obtain⟨n,hn⟩:=AX (show 0<=1+q.1 by omega);refine Pz (n:=n) (fun i (v:Ax×Aa)=>((i:Int),v.1,v.2)) (fun i v=>C6 v.1/\∃ss:List Int,v.2=⟨ss,w64 (1+r1.1),w64 (2+r2.1),w64 (1+r3.1),w64 (1+r4.1),w64 (1+r5.1),r6.1,w64 (1+r7.1),w64 (1+r8.1)⟩/\ss.length=i/\∀x∈ss,2<=x/\x<=13) _ (by omega) ?_ (v:=(q.2,_)) ⟨c9,[],rfl,rfl,by simp⟩;rintro L i ⟨c,r⟩ ⟨e,ss,Q,hs,hx⟩ hi S;unfold iA Af1;dsimp only at e Q S ⊢;subst Q;rw[A2 (n:=1+q.1) (by omega) (by omega),hn,dec_lt];rcases AZ i n with h|h
 .obtain⟨y,j,X,Y,a,g⟩:=DI e 12;have a:=a (by omega);rw[decide_eq_true h,BP,j,AB,B8 (by simp only[List.length_cons,List.length_nil];unfold lim;omega),Bn h (by omega)];refine S (_,_) ⟨g,_,rfl,by simp[hs],?_⟩ h
  grind[List.mem_singleton,A2]
 .rw[decide_eq_false (by omega),Bb,AV]
  grind[Dz,CA,List.all_eq_true,A2]
def Nk(h:AE):Prop:=-9223372036854775808<=h.Now/\h.Now<9223372036854775808
def AZM(r:Aa)(n:Nat)(h:AE):Prop:=h.AH.length<=h.AQ.AY.length/\h.AH.length<=r.AY.length/\h.AQ.AY.length<=1048576/\h.AG.length<=n/\h.BB.length<=n/\h.A9.length<=3/\(∀c∈h.AH,FD c)/\1<=h.AH.length/\Nk h
theorem AbI{s:List UInt8}(e:s.length<=1048576)(k:Nat)(c:k<=1000):∃x,ABz s (k:Int)=some x/\0<=x/\x<256:=by
 unfold ABz;rw[BQ];split
 .rename_i h;have a:=s[k].toNat_lt
  grind[BG,AB,A2]
 grind[A2,Vt]
theorem AIk(l:List Au):ES eqE l l=true:=(Hs dT).2 rfl
theorem AIl(l:List BY):ES eqP l l=true:=(Hs dU).2 rfl
theorem AJD(x:Int):(x==x)=true:=beq_self_eq_true x
theorem AIn{r:Aa}(a:r.AY.length<=1048576):AKJ r r=some true:=by
 grind[AKJ,mf,Hz,QK,AB,BP,AV]
theorem AIo{w:Aw}(c:DV w)(a:G2 w=true):bJ w w=some true:=by
 unfold bJ AcK
 grind[IF,HK,MS,PN,Eu,AIl,AB,BP,AV]
theorem AIm{c:Ae}(a:FD c)(e:LR c=true):ACD c c=some true:=by
 have g:G2 c.By=true:=by
  grind[LR]
 have h:=a.1;unfold ACD Abk;simp only[NH a,e,AJD,CP,RT (show c.Row.length<2 ^ 62 by omega),AIk,AIo a.2 g,AB,BP,AV]
theorem nq{h:AE}(a:Bt h)(e:DD h=true):ACF h h=some true:=by
 have j:=a.De;have B:=a.CM;have E:=a.Ds;have G:=a.todo;have H:=a.Fk;unfold ACF AbK;simp only[GJ a,e,AIn j,Hz (show h.BB.length<2 ^ 62 by omega),Hz (show h.A9.length<2 ^ 62 by omega),QK.2,ne_self,AB,Bs,Bb,AV];have q:AcL h h ()=some true:=by
  unfold AcL;have key:=AZe (n:=h.AH.length) (F:=AcM h h) (by omega) ?_ ?_
  .rw[ne_self,Bb]at key;exact key
  .intro L i hi;have c:LR h.AH[i]=true:=by
    have I:=JY.1 (JL e).2.2.2.2.2.2.2.2.2 i hi
    grind[WB,CO,Jv]
   unfold AcM;rw[B9 hi,BP,BG hi,AB,AB,AIm (a.ED _ (List.getElem_mem hi)) c,AB,BK,BP]
  .intro L;unfold AcM Af8;rw[Cr,Bb,AV]
 rw[<-q];refine(C3 (n:=h.AG.length) (fun i (_:Unit)=>(i:Int)) (fun _ _=>True) (fun _ _=>AcL h h ()) (by omega) ?_ (v:=()) trivial);intro L i _ _ hi y;unfold Af9;rcases AZ i h.AG.length with g|g
 .rw[B9 g,BP,BG g,AB,AB,Bn g (by omega)];simp only[AJD,CP,Bs,Bb];exact y () trivial g
 grind[Bb,AV]
theorem AZ3{c:Ax}(hc:C6 c){h:AE}(hh:Bt h):∃x,AJ8 c h=some x/\C6 x.2:=by
 unfold AJ8;obtain⟨x1,Q,_,_,_,I⟩:=DI hc 12;have j4:∀x:Ax×B3,Ade x=some (x.2,x.1):=fun _=>rfl
 have j5:∀(v x:Int) (y:Int×Ax) (b:Bool),C6 y.2->∃z,AcF h v x y b=some z/\C6 z.2:=by
  intro v x y b a;unfold AcF;obtain⟨H,e,_,_,_,g⟩:=DI a x;obtain⟨z2,j,_,_,_,B⟩:=DI g 4;obtain⟨z3,q,_,_,_,E⟩:=DI a (if 1>h.AQ.Cu then 1 else h.AQ.Cu);simp only[e,j,q,N3,AB,Bi]
  repeat' split
  all_goals first|exact⟨_,rfl,B⟩|exact⟨_,rfl,a⟩|exact⟨_,rfl,E⟩
 have j3:∀(v x:Int) (y:Int×Ax) (b:Bool),C6 y.2->∃z,Abj h v x y b=some z/\C6 z.2:=by
  intro v x y b a;unfold Abj;obtain⟨H,e,_,_,_,g⟩:=DI a 14;obtain⟨z2,j,_,_,_,B⟩:=DI g x;obtain⟨z3,q,_,_,_,E⟩:=DI B (if 1>h.AQ.BE then 1 else h.AQ.BE);obtain⟨z4,S,_,_,_,Y⟩:=DI E (if 1>h.AQ.CS then 1 else h.AQ.CS);obtain⟨z5,f5,J⟩:=U4 Y 3;obtain⟨z6,X,_,_,_,Z⟩:=DI J x;simp only[e,j,q,S,f5,X,N3,AB,Bi,AV,Ce,Kg,Kh,Ki,Kj,J4,Kk,Kl,Ym,j4]
  repeat' split
  all_goals first|exact⟨_,rfl,Z⟩|exact⟨_,rfl,J⟩|exact⟨_,rfl,a⟩|exact j5 _ _ _ _ a
 have G:∀x:Int×Ax,C6 x.2->∃z,iH h x=some z/\C6 z.2:=by
  rintro⟨v,c⟩ a;unfold iH;dsimp only at a ⊢;obtain⟨H,e,_,_,_,g⟩:=DI a 12;simp only[e,N3,AB,Bi,AV]
  repeat' split
  all_goals exact j3 _ _ _ _ g
 have hp:=hh.CM;rw[Q,AB,BQ];split
 .rename_i h0;obtain⟨o,eo,co⟩:=U4 I 3;rw[eo,AB,AV];unfold AcE;dsimp only;rw[Bi];split
  .obtain⟨H,e,L,_,O,g⟩:=DI co (h.AG.length:Int);obtain⟨k,hk⟩:=AX L;have:=O (by omega);rw[e,AB,hk,BG (by omega),AB,AV];exact G _ g
  .rw[AV];exact G _ co
 .rw[AV];unfold AcE;dsimp only;rw[Bb,AV];exact G _ I
theorem AZ6{c:Ax}(j:C6 c){h:AE}(y:Bt h):∃x,ACG c h=some x/\C6 x.2:=by
 have G:=y.CM;unfold ACG;have B:([4,4,5]:List Int)≠[]:=by simp
 refine Pz (n:=h.AG.length) (fun i (v:Ax)=>((i:Int),v)) (fun _ v=>C6 v) (fun x:B3×Ax=>C6 x.2) (by omega) ?_ j;intro L i v e hi H;unfold AgB;dsimp only;rcases AZ i h.AG.length with a|q
 .rw[B9 a,BP,BG a,AB,Bi];have g:∀x:Bool×Ax,C6 x.2->∃r,ij h L i x=some r/\C6 r.2:=by
   rintro⟨b,w⟩ E;unfold ij;dsimp only;obtain⟨z,ez,cz,_⟩:=Yg E B
   grind[BG,AB,Bn,Bi]
  obtain⟨o,eo,co⟩:=U4 e 3;rw[eo,AB];simp only[AV];split
  .exact g _ co
  .exact g _ e
 .obtain rfl:i=h.AG.length:=by omega
  rw[Cr,Bb,AV];unfold AgA;obtain⟨o,eo,co⟩:=U4 e 4;obtain⟨z,ez,_,_,_,cz⟩:=DI co (if 1>(h.A9.length:Int) then 1 else (h.A9.length:Int));rw[eo,AB,Bi,N3,AB,ez,AB];split
  .exact⟨_,rfl,co⟩
  .exact⟨_,rfl,cz⟩
theorem AZM.fit{r:Aa}(c:Dz r=true){h:AE}(e:AZM r 0 h):Bt h:=by
 obtain⟨g,j,a3,a4,q,y,a,B,E⟩:=e;have G:=CI c;exact⟨a3,by omega,by omega,a,by omega,by omega⟩
end Lv.P
