/- Plain laws about what the program computes. -/
import Derived.Test.YtnjoipcemhflkaaGreatPGw
import Derived.Test.YtnjoipcemhflkaaGreatPKw
set_option linter.unusedVariables false
set_option linter.unusedSimpArgs false
set_option linter.unusedSectionVars false
open Bool renaming and_true->CP,not_true->Bs
open Int renaming eq_ofNat_of_zero_le->AX
open List renaming getElem_mem->Ah,length_append->AK,length_cons->AI,mem_append->B7,mem_cons->Ag,mem_iff_getElem->DB,not_mem_nil->KE
open Nat renaming lt_or_ge->AZ
namespace Lv.P
open Lv Go
theorem AP0(a:Int):0<=dw a 255/\dw a 255<=255:=by
 unfold dw;have e:(BitVec.ofInt IntKind.i64.bits 255).toNat=255:=rfl
 grind[BitVec.toNat_and,BitVec.ofInt,Nat.and_le_right,UP]
theorem ADr(s:List UInt8):Nq s=some (decide ((s.length:Int)>1048576)):=rfl
def C6(c:Ax):Prop:=0<=c.i_/\c.i_<=c.b_.length/\c.b_.length<=1048576
theorem AZ7{s:List UInt8}(a:s.length<=1048576):∃c,bB s=some c/\C6 c:=by
 unfold bB;refine Pz (n:=s.length) (fun i (v:Int)=>(v,(i:Int))) (fun _ _=>True) C6 (by omega) ?_ trivial;intro L i v _ hi e;unfold AdI Aff Aof;dsimp only;simp only[AV,dec_lt];rcases AZ i s.length with h|h
 .rw[decide_eq_true h,BP,BQ,BG h,AB,Bn h (by omega)];split
  .exact e _ trivial h
  .exact⟨_,rfl,by simp,by simp,a⟩
 .rw[decide_eq_false (by omega),Bb,Bb];exact⟨_,rfl,by simp,by simp,a⟩
theorem tY{c:Ax}(j:C6 c):∃r,ABD c=some r/\0<=r.1/\r.1<=255/\C6 r.2:=by
 obtain⟨a,g,e⟩:=j;unfold ABD SN;rw[BQ];obtain⟨i,hi⟩:=AX a;split
 .rename_i h;rw[hi,BG (by omega),AB,AV];have:=AP0 (w64 (dw (UY (D4 (w64 (w64 (c.h_*6364136223846793005)+1442695040888963407)) 33) (D4 (w64 (w64 (c.h_*6364136223846793005)+1442695040888963407)) 45)) 255+w64 (↑(UInt8.toNat c.b_[i]):Int)));refine⟨_,rfl,this.1,this.2,?_⟩;rw[A2 (n:=(i:Int)+1) (by omega) (by omega)];exact⟨by dsimp only;omega,by dsimp only;omega,e⟩
 .rw[AV];have:=AP0 (UY (D4 (w64 (w64 (c.h_*6364136223846793005)+1442695040888963407)) 33) (D4 (w64 (w64 (c.h_*6364136223846793005)+1442695040888963407)) 45));exact⟨_,rfl,this.1,this.2,a,g,e⟩
theorem Vt{a n:Int}(c:0<=a)(e:0<n):0<=Int.tmod a n/\Int.tmod a n<n:=by
 rw[Int.tmod_eq_emod_of_nonneg c];exact⟨Int.emod_nonneg _ (by omega),Int.emod_lt_of_pos _ e⟩
theorem DI{c:Ax}(q:C6 c)(n:Int):∃r,ABE c n=some r/\0<=r.1/\(n<=0->r.1=0)/\(0<n->r.1<n)/\C6 r.2:=by
 unfold ABE;rw[BQ];by_cases y:n<=0
 .rw[AW y];exact⟨_,rfl,by simp,by simp,by omega,q⟩
 rw[AR y,BQ];split
 .obtain⟨r,e,S,h2,h3⟩:=tY q;rw[e,AB,B8 (by omega)];have:=Vt S (show 0<n by omega)
  grind
 .obtain⟨g,J,X,Z,E⟩:=tY q;obtain⟨h,L,Y,b2,G⟩:=tY E;obtain⟨j,O,a3,b3,H⟩:=tY G;obtain⟨B,Q,a4,b4,I⟩:=tY H;rw[J,AB,L,AB,O,AB,Q,AB,B8 (by omega)];rw[A2 (n:=g.1*16777216) (by omega) (by omega),A2 (n:=h.1*65536) (by omega) (by omega),A2 (n:=j.1*256) (by omega) (by omega)];rw[A2 (n:=g.1*16777216+h.1*65536) (by omega) (by omega),A2 (n:=g.1*16777216+h.1*65536+j.1*256) (by omega) (by omega),A2 (n:=g.1*16777216+h.1*65536+j.1*256+B.1) (by omega) (by omega)];have:=Vt (a:=g.1*16777216+h.1*65536+j.1*256+B.1) (by omega) (show 0<n by omega);exact⟨_,rfl,this.1,by omega,fun _=>this.2,I⟩
theorem Yg{c:Ax}(a:C6 c){l:List Int}(g:l≠[]):∃r,qH c l=some r/\C6 r.2/\r.1∈l:=by
 unfold qH;have B:0<l.length:=by cases l with|nil=>exact absurd rfl g|cons=>simp
 obtain⟨r,e,h,j,q,y⟩:=DI a (l.length:Int)
 grind[Int.eq_ofNat_of_zero_le,AB,BG,List.getElem_mem]
theorem AVQ{c:Ax}(e:C6 c):∃r,ABF c=some r/\r.1.AY.length<=3/\Dz r.1=true/\C6 r.2:=by
 unfold ABF;obtain⟨r1,j,X,Y,a,g⟩:=DI e 5;obtain⟨r2,e2,a2,b2,B,Z⟩:=DI g 9;obtain⟨r3,e3,a3,b3,E,c3⟩:=DI Z 6;obtain⟨r4,e4,a4,b4,G,c4⟩:=DI c3 5;obtain⟨r5,e5,a5,b5,H,c5⟩:=DI c4 4;obtain⟨r6,e6,a6,b6,I,c6⟩:=DI c5 4;obtain⟨r7,e7,a7,b7,J,c7⟩:=DI c6 4;obtain⟨r8,e8,a8,b8,O,c8⟩:=DI c7 3;obtain⟨q,e9,a9,b9,d9,c9⟩:=DI c8 3;simp only[j,e2,e3,e4,e5,e6,e7,e8,e9,AB];have a:=a (by omega);have B:=B (by omega);have E:=E (by omega);have G:=G (by omega);have H:=H (by omega);have I:=I (by omega);have J:=J (by omega);have O:=O (by omega);have h9:=d9 (by omega);obtain⟨n,hn⟩:=AX (show 0<=1+q.1 by omega);refine Pz (n:=n) (fun i (v:Ax×Aa)=>((i:Int),v.1,v.2)) (fun i v=>C6 v.1/\∃ss:List Int,v.2=⟨ss,w64 (1+r1.1),w64 (2+r2.1),w64 (1+r3.1),w64 (1+r4.1),w64 (1+r5.1),r6.1,w64 (1+r7.1),w64 (1+r8.1)⟩/\ss.length=i/\∀x∈ss,2<=x/\x<=13) _ (by omega) ?_ (v:=(q.2,_)) ⟨c9,[],rfl,rfl,by simp⟩;rintro L i ⟨c,r⟩ ⟨e,ss,Q,hs,hx⟩ hi S;unfold Aog AdK;dsimp only at e Q S ⊢;subst Q;rw[A2 (n:=1+q.1) (by omega) (by omega),hn,dec_lt];rcases AZ i n with h|h
 .obtain⟨y,j,X,Y,a,g⟩:=DI e 12;have a:=a (by omega);rw[decide_eq_true h,BP,j,AB,B8 (by simp only[AI,List.length_nil];unfold lim;omega),Bn h (by omega)];refine S (_,_) ⟨g,_,rfl,by simp[hs],?_⟩ h
  grind[List.mem_singleton,A2]
 .rw[decide_eq_false (by omega),Bb,AV]
  grind[Dz,CA,List.all_eq_true,A2]
def Nk(h:AE):Prop:=-9223372036854775808<=h.Now/\h.Now<9223372036854775808
def AZM(r:Aa)(n:Nat)(h:AE):Prop:=h.AH.length<=h.AQ.AY.length/\h.AH.length<=r.AY.length/\h.AQ.AY.length<=1048576/\h.AG.length<=n/\h.BB.length<=n/\h.A9.length<=3/\(∀c∈h.AH,FD c)/\1<=h.AH.length/\Nk h
theorem ATH{h:AE}(q:DD h=true):∀n∈F6 h,okN n:=by
 have e:=ON q;have I:=JL q;have hR:=CI e.rules;have y:=Lg h.AQ;rw[nA];intro n a;unfold okN;simp only[Ag,B7,List.mem_flatMap,List.mem_map]at a;rcases a with rfl|a|rfl|rfl|rfl|⟨p,L,a⟩|⟨c,E,rfl⟩|rfl|a|⟨j,H,rfl⟩
 .omega
 .unfold KQ at a;simp only[Ag,B7,KE,or_false]at a;rcases a with (rfl|rfl|rfl|rfl|rfl|rfl|rfl|rfl)|a
  all_goals first|omega|skip
  have:=hR.2.2.2.2.2.1 n a;omega
 .omega
 .omega
 .omega
 .obtain⟨i,hi,rfl⟩:=DB.1 L;have O:=E2 (e.par i hi);unfold LN at a;simp only[Ag,KE,or_false]at a;have G:=A2 (n:=h.AG[i].Bu+1) (by omega) (by omega);rw[G]at a;omega
 .obtain⟨i,hi,rfl⟩:=DB.1 E;have B:i<h.AQ.AY.length:=by rw[<-e.Ds];exact hi
  have hD:h.AQ.AY.getD i 0=h.AQ.AY[i]:=by simp[List.getD,B]
  have g:=(e.cab i hi).2;have Q:=hR.2.2.2.2.2.1 _ (Ah B);rw[hD]at g;omega
 .have:=e.todo;have:=e.De;omega
 .obtain⟨i,hi,rfl⟩:=DB.1 a;have g:=JY.1 I.2.2.2.2.2.2.1 i hi;unfold RW at g;have J:=e.Ds;have:=e.De;rw[CO hi,Bool.and_eq_true,CA,A2 (by omega) (by omega)]at g;omega
 .have:=e.job j H;unfold up;rw[A2 (by omega) (by omega)];omega
theorem AFZ(l:List AU):(l.flatMap LN).length=10*l.length:=by
 induction l with
 |nil=>rfl|cons p l a=>rw[List.flatMap_cons,AK,a,AI];show 10+_=_;omega
theorem ATG{h:AE}(c:DD h=true):16<=(F6 h).length:=by
 have a:=ON c;have e:=Lg h.AQ;have g:=a.De;have j:=a.Ds;have q:=a.PE;have y:=a.Aa6;rw[nA];simp only[AI,AK,List.length_map,AFZ];omega
theorem AVJ{h:AE}(a:DD h=true){q:Int}(c:inB q 0 1000000=true):HU h q=four ((KJ (pL (q::F6 h)):Nat):Int)++pL (q::F6 h):=by
 unfold HU;rw[AW ⟨a,c⟩]
theorem AEm{h:AE}(c:DD h=true){q:Int}(e:inB q 0 1000000=true):∀n∈q::F6 h,okN n:=by
 intro n a;rw[CA]at e;rcases Ag.1 a with rfl|a
 .unfold okN;omega
 .exact ATH c n a
theorem APT{h:AE}(a:DD h=true){q:Int}(c:inB q 0 1000000=true):(HU h q).drop 4=pL (q::F6 h)/\20<=(HU h q).length:=by
 rw[AVJ a c];have e:=ATY (AEm a c);have g:=ATG a;refine⟨List.drop_left' (HB _),?_⟩;rw[AK,HB];simp only[AI]at e;omega
theorem APU{h:AE}(a:DD h=true)(j:Bt h){q:Int}(g:inB q 0 1000000=true):AJ8 (HU h q)=some (h,q,true):=by
 have G:=JP h q;obtain⟨c,E⟩:=APT a g;obtain⟨r,_,e,B⟩:=Lq (s:=HU h q) (by omega);rw[e,B.all h q a j ?_ rfl (by omega)];have y:(pL (q::F6 h)).length<=(HU h q).length:=by rw[<-c,List.length_drop];omega
 rw[c];exact yt _ _ (AEm a g) (by omega)
theorem AIk(l:List Au):ES eqE l l=true:=(Hs dT).2 rfl
theorem AIl(l:List BY):ES eqP l l=true:=(Hs dU).2 rfl
theorem AJD(x:Int):(x==x)=true:=beq_self_eq_true x
theorem AIn{r:Aa}(a:r.AY.length<=1048576):Wp r r=some true:=by
 grind[Wp,iJ,Hz,QK,AB,BP,AV]
theorem AIo{w:Aw}(c:DV w)(a:G2 w=true):DH w w=some true:=by
 unfold DH Alx
 grind[IF,HK,MS,PN,Eu,AIl,AB,BP,AV]
theorem AIm{c:Ae}(a:FD c)(e:LR c=true):AB2 c c=some true:=by
 have g:G2 c.By=true:=by
  grind[LR]
 have h:=a.1;unfold AB2 AlK;simp only[NH a,e,AJD,CP,RT (show c.Row.length<2 ^ 62 by omega),AIk,AIo a.2 g,AB,BP,AV]
theorem nq{h:AE}(a:Bt h)(e:DD h=true):Po h h=some true:=by
 have j:=a.De;have B:=a.CM;have E:=a.Ds;have G:=a.todo;have H:=a.Fk;unfold Po Aj1;simp only[GJ a,e,AIn j,Hz (show h.BB.length<2 ^ 62 by omega),Hz (show h.A9.length<2 ^ 62 by omega),QK.2,ne_self,AB,Bs,Bb,AV];have q:Aly h h ()=some true:=by
  unfold Aly;have key:=AZe (n:=h.AH.length) (F:=Alh h h) (by omega) ?_ ?_
  .rw[ne_self,Bb]at key;exact key
  .intro L i hi;have c:LR h.AH[i]=true:=by
    have I:=JY.1 (JL e).2.2.2.2.2.2.2.2.2 i hi
    grind[WB,CO,Jv]
   unfold Alh;rw[B9 hi,BP,BG hi,AB,AB,AIm (a.ED _ (Ah hi)) c,AB,BK,BP]
  .intro L;unfold Alh Am5;rw[Cr,Bb,AV]
 rw[<-q];refine(C3 (n:=h.AG.length) (fun i (_:Unit)=>(i:Int)) (fun _ _=>True) (fun _ _=>Aly h h ()) (by omega) ?_ (v:=()) trivial);intro L i _ _ hi y;unfold AmD;rcases AZ i h.AG.length with g|g
 .rw[B9 g,BP,BG g,AB,AB,Bn g (by omega)];simp only[AJD,CP,Bs,Bb];exact y () trivial g
 grind[Bb,AV]
theorem AIr:AJ8 []=some (K5,0,false):=rfl
theorem AZM.fit{r:Aa}(c:Dz r=true){h:AE}(e:AZM r 0 h):Bt h:=by
 obtain⟨g,j,a3,a4,q,y,a,B,E⟩:=e;have G:=CI c;exact⟨a3,by omega,by omega,a,by omega,by omega⟩
end Lv.P
