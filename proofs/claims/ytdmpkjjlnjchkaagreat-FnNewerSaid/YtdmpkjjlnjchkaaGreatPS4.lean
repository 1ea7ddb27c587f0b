/- Plain laws about what the program computes. -/
import Derived.Test.YtdmpkjjlnjchkaaGreatPG4
import Derived.Test.YtdmpkjjlnjchkaaGreatPK4
set_option linter.unusedVariables false
set_option linter.unusedSimpArgs false
set_option linter.unusedSectionVars false
open Bool renaming and_eq_true->AF,and_true->Cd,not_true->Br
open Int renaming eq_ofNat_of_zero_le->Ab
open List renaming flatten_append->EJ,length_append->AM,length_cons->AH,length_drop->BT,length_filterMap_le->B5,length_nil->AN,length_set->BG,length_take->BS,mem_or_eq_of_mem_set->E9
open Nat renaming le_refl->Af,le_trans->Au,lt_or_ge->AT
namespace Lv.P
open Lv Go
theorem AXo(a:Int):0<=pP a 255/\pP a 255<=255:=by
 unfold pP;have e:(BitVec.ofInt IntKind.i64.bits 255).toNat=255:=rfl
 grind[BitVec.toNat_and,BitVec.ofInt,Nat.and_le_right,bE]
theorem yI(s:List UInt8):AII s=some (decide ((s.length:Int)>1048576)):=rfl
def CI(c:AX):Prop:=0<=c.i_/\c.i_<=c.b_.length/\c.b_.length<=1048576
theorem Agd{s:List UInt8}(a:s.length<=1048576):∃c,rr s=some c/\CI c:=by
 unfold rr;refine Hl (n:=s.length) (fun i (v:Int)=>(v,(i:Int))) (fun _ _=>True) CI (by omega) ?_ trivial;intro L i v _ hi e;unfold AIL AIK Ajg;dsimp only;simp only[AR,dec_lt];rcases AT i s.length with h|h
 .rw[decide_eq_true h,BH,BA,A7 h,AB,BU h (by omega)];split
  .exact e _ trivial h
  .exact⟨_,rfl,by simp,by simp,a⟩
 .rw[decide_eq_false (by omega),BN,BN];exact⟨_,rfl,by simp,by simp,a⟩
theorem ADD{c:AX}(j:CI c):∃r,nF c=some r/\0<=r.1/\r.1<=255/\CI r.2:=by
 obtain⟨a,g,e⟩:=j;unfold nF BA2;rw[BA];obtain⟨i,hi⟩:=Ab a;split
 .rename_i h;rw[hi,A7 (by omega),AB,AR];have:=AXo (w64 (pP (bN (Dx (w64 (w64 (c.h_*6364136223846793005)+1442695040888963407)) 33) (Dx (w64 (w64 (c.h_*6364136223846793005)+1442695040888963407)) 45)) 255+w64 (↑(UInt8.toNat c.b_[i]):Int)));refine⟨_,rfl,this.1,this.2,?_⟩;rw[Ai (n:=(i:Int)+1) (by omega) (by omega)];exact⟨by dsimp only;omega,by dsimp only;omega,e⟩
 .rw[AR];have:=AXo (bN (Dx (w64 (w64 (c.h_*6364136223846793005)+1442695040888963407)) 33) (Dx (w64 (w64 (c.h_*6364136223846793005)+1442695040888963407)) 45));exact⟨_,rfl,this.1,this.2,a,g,e⟩
theorem zi{a n:Int}(c:0<=a)(e:0<n):0<=Int.tmod a n/\Int.tmod a n<n:=by
 rw[Int.tmod_eq_emod_of_nonneg c];exact⟨Int.emod_nonneg _ (by omega),Int.emod_lt_of_pos _ e⟩
theorem CQ{c:AX}(q:CI c)(n:Int):∃r,AIN c n=some r/\0<=r.1/\(n<=0->r.1=0)/\(0<n->r.1<n)/\CI r.2:=by
 unfold AIN;rw[BA];by_cases y:n<=0
 .rw[if_pos y];exact⟨_,rfl,by simp,by simp,by omega,q⟩
 rw[if_neg y,BA];split
 .obtain⟨r,e,S,h2,h3⟩:=ADD q;rw[e,AB,B9 (by omega)];have:=zi S (show 0<n by omega)
  grind
 .obtain⟨g,J,X,Z,E⟩:=ADD q;obtain⟨h,L,Y,b2,G⟩:=ADD E;obtain⟨j,O,a3,b3,H⟩:=ADD G;obtain⟨B,Q,a4,b4,I⟩:=ADD H;rw[J,AB,L,AB,O,AB,Q,AB,B9 (by omega)];rw[Ai (n:=g.1*16777216) (by omega) (by omega),Ai (n:=h.1*65536) (by omega) (by omega),Ai (n:=j.1*256) (by omega) (by omega)];rw[Ai (n:=g.1*16777216+h.1*65536) (by omega) (by omega),Ai (n:=g.1*16777216+h.1*65536+j.1*256) (by omega) (by omega),Ai (n:=g.1*16777216+h.1*65536+j.1*256+B.1) (by omega) (by omega)];have:=zi (a:=g.1*16777216+h.1*65536+j.1*256+B.1) (by omega) (show 0<n by omega);exact⟨_,rfl,this.1,by omega,fun _=>this.2,I⟩
theorem Me{c:AX}(a:CI c)(n:Int):∃r,AA5 c n=some r/\CI r.2:=by
 obtain⟨r,e,_,_,_,h⟩:=CQ a n;unfold AA5;rw[e,AB];exact⟨_,rfl,h⟩
theorem HV{c:AX}(a:CI c){l:List Int}(g:l≠[]):∃r,AQ1 c l=some r/\CI r.2/\r.1∈l:=by
 unfold AQ1;have B:0<l.length:=by cases l with|nil=>exact absurd rfl g|cons=>simp
 obtain⟨r,e,h,j,q,y⟩:=CQ a (l.length:Int)
 grind[Int.eq_ofNat_of_zero_le,AB,A7,List.getElem_mem]
theorem APp{c:AX}(e:CI c):∃r,AIQ c=some r/\r.1.AV.length<=3/\Dp r.1=true/\CI r.2:=by
 unfold AIQ;obtain⟨r1,j,X,Y,a,g⟩:=CQ e 5;obtain⟨r2,e2,a2,b2,B,Z⟩:=CQ g 9;obtain⟨r3,e3,a3,b3,E,c3⟩:=CQ Z 6;obtain⟨r4,e4,a4,b4,G,c4⟩:=CQ c3 5;obtain⟨r5,e5,a5,b5,H,c5⟩:=CQ c4 4;obtain⟨r6,e6,a6,b6,I,c6⟩:=CQ c5 4;obtain⟨r7,e7,a7,b7,J,c7⟩:=CQ c6 4;obtain⟨r8,e8,a8,b8,O,c8⟩:=CQ c7 3;obtain⟨q,e9,a9,b9,d9,c9⟩:=CQ c8 3;simp only[j,e2,e3,e4,e5,e6,e7,e8,e9,AB];have a:=a (by omega);have B:=B (by omega);have E:=E (by omega);have G:=G (by omega);have H:=H (by omega);have I:=I (by omega);have J:=J (by omega);have O:=O (by omega);have h9:=d9 (by omega);obtain⟨n,hn⟩:=Ab (show 0<=1+q.1 by omega);refine Hl (n:=n) (fun i (v:AX×AZ)=>((i:Int),v.1,v.2)) (fun i v=>CI v.1/\∃ss:List Int,v.2=⟨ss,w64 (1+r1.1),w64 (2+r2.1),w64 (1+r3.1),w64 (1+r4.1),w64 (1+r5.1),r6.1,w64 (1+r7.1),w64 (1+r8.1)⟩/\ss.length=i/\∀x∈ss,2<=x/\x<=13) _ (by omega) ?_ (v:=(q.2,_)) ⟨c9,[],rfl,rfl,by simp⟩;rintro L i ⟨c,r⟩ ⟨e,ss,Q,hs,hx⟩ hi S;unfold AtA AwX;dsimp only at e Q S ⊢;subst Q;rw[Ai (n:=1+q.1) (by omega) (by omega),hn,dec_lt];rcases AT i n with h|h
 .obtain⟨y,j,X,Y,a,g⟩:=CQ e 12;have a:=a (by omega);rw[decide_eq_true h,BH,j,AB,B9 (by simp only[AH,AN];unfold lim;omega),BU h (by omega)];refine S (_,_) ⟨g,_,rfl,by simp[hs],?_⟩ h
  grind[List.mem_singleton,Ai]
 .rw[decide_eq_false (by omega),BN,AR]
  grind[Dp,CY,List.all_eq_true,Ai]
def Nk(h:AD):Prop:=-9223372036854775808<=h.Now/\h.Now<9223372036854775808
def AUa(r:AZ)(n:Nat)(h:AD):Prop:=h.AI.length<=h.AO.AV.length/\h.AI.length<=r.AV.length/\h.AO.AV.length<=1048576/\h.AG.length<=n/\h.BC.length<=n/\h.A8.length<=3/\(∀c∈h.AI,DI c)/\1<=h.AI.length/\Nk h
theorem AXP{r:AZ}(g:r.AV.length<=3)(a:Dp r=true):∃x,nD r=some x/\AUa r 0 x.1:=by
 have c:=Lq (r:=r) (by omega);have e:=CT a;refine⟨_,yX (by omega),?_⟩;unfold AUa;refine⟨?_,?_,c.Dd,?_,?_,?_,c.De,?_,?_⟩<;>(unfold EB;rw[if_pos a])<;>simp[Nk]<;>omega
theorem Acl(l:List AK)(c:l.length<2 ^ 62)(n:Int):∃i,AIR l n=some i/\(i<0\/∃k:Nat,i=k/\k<l.length):=by
 unfold AIR;refine Hl (n:=l.length) (fun i (_:Unit)=>(i:Int)) (fun _ _=>True) _ (by omega) ?_ (v:=()) trivial;intro L i _ _ hi a;unfold sE fT;rw[dec_lt];rcases AT i l.length with h|h
 .rw[decide_eq_true h,BH,A7 h,AB,BZ,BU h (by omega)];split
  .grind
  .exact a () trivial h
 grind[decide_eq_false,BN,AR]
theorem AMz{c:AX}(hc:CI c)(r:AZ)(now:Int):∃x,AA6 c r now=some x/\CI x.2:=by
 obtain⟨r1,S,a1,b1,d1,I⟩:=CQ hc 12;obtain⟨r2,X,a2,b2,d2,J⟩:=CQ I (r.AV.length:Int);obtain⟨r3,Y,a3,b3,d3,L⟩:=CQ J r.A2;obtain⟨r4,Z,a4,b4,d4,O⟩:=CQ L r.CJ;obtain⟨r5,e5,a5,b5,d5,Q⟩:=CQ O 40;obtain⟨r6,e6,a6,b6,d6,E⟩:=CQ Q r.CL;have H:∀x:AX×AK,CI x.1->∃y,A4h x=some y/\CI y.2:=by
  rintro⟨c,p⟩ h;exact⟨_,rfl,h⟩
 have B:∀x:AX×AK,CI x.1->∃y,Al7 r x=some y/\CI y.2:=by
  rintro⟨c,p⟩ h;unfold Al7;obtain⟨o,eo,a⟩:=Me h 4;dsimp only;rw[eo,AB,BZ,AR];split
  .obtain⟨q,eq,_,_,_,e⟩:=CQ a (r.AV.length:Int);rw[eq,AB,AR];exact H _ e
  .exact H _ a
 have G:∀x:AX×AK,CI x.1->∃y,A9b r now x=some y/\CI y.2:=by
  rintro⟨c,p⟩ h;unfold A9b;obtain⟨o,eo,a⟩:=Me h 3;dsimp only;rw[eo,AB,BZ,AR];split
  .obtain⟨q,eq,_,_,_,e⟩:=CQ a (w64 (now+r.Bq));rw[eq,AB,AR];exact B _ e
  .exact B _ a
 unfold AA6;simp only[S,X,Y,Z,e5,e6,AB,Cw,Ja,Jb,Jc,Jd,I9,Je,Jf,Ej,MH,Gv,BZ,AR];split
 .obtain⟨q,eq,_,_,_,e⟩:=CQ E (w64 (now+1));obtain⟨o,eo,a⟩:=Me e 3;rw[eq,AB,eo,AB];split
  .obtain⟨q',g,_,_,_,j⟩:=CQ a (w64 (w64 (now+r.Rest)+1));rw[g,AB];exact G _ j
  .exact G _ a
 .exact B _ E
theorem Acm{h:AD}{p:AK}(c:h.AG.length<=1000)(e:h.AI.length<=h.AO.AV.length)(j:h.AO.AV.length<=1048576):∃b,fV h p=some b:=by
 unfold fV;simp only[List.nil_append,Cw,Ja,Jb,Jc,Jd,I9,Je,Jf,Ej,MH];have q:(h.AG).length=h.AG.length:=by simp
 rw[B9 (by unfold lim;omega),B9 (by simp only[AH,AN];unfold lim;omega),B9 (by unfold lim;omega),B9 (by simp only[AH,AN];unfold lim;omega),B9 (by unfold lim;omega),B9 (by simp only[AH,AN];unfold lim;omega)];obtain⟨r,h,_⟩:=Hl (F:=AIU h p) (n:=h.AI.length) (fun i (_:Unit)=>(i:Int)) (fun _ _=>True) (fun _=>True) (by omega) (by
  intro L i v _ hi a;unfold AIU AIT;rw[dec_lt];rcases AT i h.AI.length with g|g
  .have ea:=Rj (l:=[]++h.AG++[p]) (by simp;omega) (i:Int);have eb:=Rl (l:=[]++h.AG++[p]) (by simp;omega) (i:Int);rw[decide_eq_true g,BH,A7 (show i<h.AO.AV.length by omega),AB,ea,AB,eb,AB,BZ,BU g (by omega)];split
   .exact⟨_,rfl,trivial⟩
   .exact a () trivial g
  .rw[decide_eq_false (by omega),BN,AR];exact⟨_,rfl,trivial⟩) (v:=()) trivial
 exact⟨r,h⟩
theorem AXQ{l:List AK}(e:l.length<=1000)(p:AK):∃r,AIV l p=some r/\r.length<=l.length+1:=by
 unfold AIV;obtain⟨i,ei,hi⟩:=Acl l (by omega) p.Id;rw[ei,AB,B9 (by unfold lim;omega),BA];split
 .grind[A7,AB]
 .refine Hl (n:=l.length) (fun i (_:Unit)=>(i:Int)) (fun _ _=>True) _ (by omega) ?_ (v:=()) trivial;intro L i _ _ hi c;have a:∃r,A83 l p (i:Int)=some r/\r.length<=l.length+1:=by
   grind[A83,Cw,Ja,Jb,Jc,Jd,I9,Je,Jf,Ej,MH,Int.toNat_natCast,List.length_take,B9,lim,List.length_cons,List.length_nil,List.length_append,List.length_drop]
  unfold sH AIW;rw[dec_lt];rcases AT i l.length with h|h
  .rw[decide_eq_true h,BH,A7 h,AB,AR,BA,BU h (by omega),AR];split
   .exact c () trivial h
   .exact a
  .rw[decide_eq_false (by omega),BN,AR,BN,AR];exact a
theorem AhV{r:AZ}(q:r.AV.length<2 ^ 62){l:List AK}(y:l.length<=400){k:Nat}(j:k<r.AV.length)(now x:Int):∃c,AA7 r l k now x=some c/\DI c:=by
 unfold AA7;obtain⟨ps,ep,B⟩:∃ps,Adj l (k:Int)=some ps/\ps.length<=400:=⟨_,Z7 (by omega) _,by unfold GJ;rw[IG];have:=B5 (Nu (k:Int)) l;omega⟩;rw[Vu,AB,ep,AB];obtain⟨c,g,a⟩:=Hl (F:=BA4 r l (k:Int) now x ps) (n:=ps.length) (fun i (v:An)=>((i:Int),v)) (fun i v=>C1 v) (fun c=>DI c) (by omega) (by
  intro L i v e hi G;unfold BA4 BCh;dsimp only;rw[dec_lt];rcases AT i ps.length with h|h
  .have ey:=NR e ps[i];have E:=jy e ps[i]
   grind[decide_eq_true,BH,A7,AB,BU]
  .have ea:=Rj (l:=l) (by omega) (k:Int);have eb:=Rl (l:=l) (by omega) (k:Int);have eq:=PQ q (l:=l) (by omega) (k:Int) now;rw[decide_eq_false (by omega),BN,AR,ea,AB,eb,AB,A7 j,AB,Ns,AB,eq,AB];refine⟨_,rfl,?_,e⟩;dsimp only;unfold D3;rw[IG];have:=B5 (ML r (k:Int) now) l;omega) (v:=⟨List.replicate 9 []⟩) WM
 exact⟨c,g,a⟩
theorem AcZ{l:List Int}(a:l.length<=1048576)(n:Int):∃r,AYG l n=some r/\r.length<=l.length+1:=by
 grind[AYG,WE,B9,lim,AB,BZ,List.length_cons,List.length_nil]
def AGe(h:AD):Prop:=h.AG.length<=400/\h.AI.length<=1000/\h.AO.AV.length<=1048576/\Bp h/\1<=h.AI.length/\h.BC.length<=2000/\h.A8.length<=1000/\Nk h
theorem Agc{c:AX}(E:CI c):∃x,AQ0 c=some x/\AGe x.1/\CI x.2:=by
 unfold AQ0;obtain⟨r,er,hr,hrb,cr⟩:=APp E;obtain⟨h,eh,B⟩:=AXP hr hrb;obtain⟨a,ea,a1,a2,a3,ca⟩:=CQ cr 20;obtain⟨b,eb,b1,b2,b3,cb⟩:=CQ ca 9;have hb:=b3 (by omega);rw[er,AB,eh,AB,ea,AB,eb,AB];obtain⟨n,hn⟩:=Ab b1;have post:∀x:AX×AD,CI x.1->AUa r.1 100 x.2->∃y,BA5 r x=some y/\AGe y.1/\CI y.2:=by
  rintro⟨c,h⟩ E B;unfold BA5;dsimp only at E B ⊢;have hcn:=B.2.1;refine Hl (n:=h.AI.length) (fun i (v:AX×AD)=>((i:Int),v.1,v.2)) (fun i v=>CI v.1/\v.2.AI.length=h.AI.length/\v.2.AG.length<=100/\v.2.BC.length<=100+i/\v.2.AO.AV.length<=1048576/\v.2.A8.length<=3/\(∀c∈v.2.AI,DI c)/\Nk v.2) _ (by omega) ?_ (v:=(c,h)) ⟨E,rfl,B.2.2.2.1,by dsimp only;have:=B.2.2.2.2.1;omega,B.2.2.1,B.2.2.2.2.2.1,B.2.2.2.2.2.2.1,B.2.2.2.2.2.2.2.2⟩;rintro L i ⟨c,Q⟩ ⟨J,O,Z,g4,S,g6,X,Y⟩ hi G;dsimp only at J O Z g4 S g6 X Y G ⊢;unfold BCj BA6 BCi;dsimp only;rw[O,dec_lt];rcases AT i h.AI.length with g|g
  .obtain⟨x,ex,_,_,_,cx⟩:=CQ J 6;obtain⟨m,em,hm⟩:=AhV (r:=r.1) (by omega) (l:=Q.AG) (by omega) (k:=i) (by omega) Q.Now x.1;obtain⟨o,eo,co⟩:=Me cx 2;obtain⟨t,et,ht⟩:=AcZ (l:=Q.BC) (by omega) (i:Int);rw[decide_eq_true g,BH,ex,AB,em,AB,A7 (by omega),AB,AB,eo,AB,BZ,et,AB,AR,AR,BU g (by omega)];split
   .exact G (_,_) ⟨co,by simp[O],Z,by dsimp only;omega,S,g6,fun c E=>by
     rcases E9 E with E|rfl
     .exact X c E
     .exact hm,Y⟩ g
   .exact G (_,_) ⟨co,by simp[O],Z,by dsimp only;omega,S,g6,fun c E=>by
     rcases E9 E with E|rfl
     .exact X c E
     .exact hm,Y⟩ g
  .rw[decide_eq_false (by omega),BN,AR];refine Hl (n:=Q.A8.length) (fun j (v:AX×AD)=>((j:Int),v.1,v.2)) (fun j v=>CI v.1/\v.2.A8.length=Q.A8.length/\AGe v.2) _ (by omega) ?_ (v:=(c,Q)) ⟨J,rfl,by dsimp only;omega,by dsimp only;omega,S,⟨S,by dsimp only;omega,by dsimp only;omega,X,by dsimp only;omega,by dsimp only;omega⟩,by have:=B.2.2.2.2.2.2.2.1;dsimp only;omega,by dsimp only;omega,by dsimp only;omega,Y⟩;rintro L j ⟨c,h2⟩ ⟨H,I,e⟩ hj G;dsimp only at H I e G ⊢;unfold BCk A98 BBp;dsimp only;rw[I,dec_lt];rcases AT j Q.A8.length with k|k
   .obtain⟨o,eo,co⟩:=Me H 3;obtain⟨x,ex,_,_,_,cx⟩:=CQ co (r.1.AV.length:Int);rw[decide_eq_true k,BH,eo,AB,BZ,ex,AB,A7 (by omega),AB,AB,AR,AR,BU k (by omega)];split
    .exact G (_,_) ⟨cx,by simp[I],e.1,e.2.1,e.2.2.1,⟨e.2.2.2.1.Dd,e.2.2.2.1.CS,e.2.2.2.1.EG,e.2.2.2.1.De,e.2.2.2.1.todo,by simp only[BG];exact e.2.2.2.1.F4⟩,e.2.2.2.2.1,e.2.2.2.2.2.1,by simp only[BG];exact e.2.2.2.2.2.2.1,e.2.2.2.2.2.2.2⟩ k
    .exact G (_,_) ⟨co,I,e⟩ k
   .rw[decide_eq_false (by omega),BN,AR];exact⟨_,rfl,e,H⟩
 refine Hl (n:=n) (fun i (v:Int×AX×AD)=>(v.1,(i:Int),v.2.1,v.2.2)) (fun i v=>CI v.2.1/\AUa r.1 i v.2.2) _ (by omega) ?_ (v:=(0,b.2,_)) ⟨cb,B.1,B.2.1,B.2.2.1,B.2.2.2.1,B.2.2.2.2.1,B.2.2.2.2.2.1,B.2.2.2.2.2.2.1,B.2.2.2.2.2.2.2.1,by have:=a3 (by omega);unfold Nk;dsimp only;omega⟩;rintro L i ⟨t,c,h⟩ ⟨J,O⟩ hi G;dsimp only at J O G ⊢;obtain⟨H,I,e,k4,k5,k6,k7⟩:=O;unfold Ajo;dsimp only;rw[hn,dec_lt];rcases AT i n with g|g
 .obtain⟨p,ep,cp⟩:=AMz J r.1 h.Now;obtain⟨x1,e1,_,_,_,c1⟩:=CQ cp 12;obtain⟨x2,e2,_,_,_,c2⟩:=CQ c1 2;obtain⟨x3,e3,_,_,_,c3⟩:=CQ c2 4;rw[decide_eq_true g,BH,ep,AB,e1,AB,e2,AB,e3,AB,ZT,AB,BZ,AR,AR];have j3:∀(q:AK) (b:Bool),∃y,A84 L t (i:Int) h x3 q b=some y/\AGe y.1/\CI y.2:=by
   intro q b;unfold A84 Ain;obtain⟨l,el,hl⟩:=AXQ (l:=h.AG) (by omega) q;rw[BZ,AR,el,AB,AR,BU g (by omega)];split
   .exact G (_,_,_) ⟨c3,H,I,e,by dsimp only;omega,by dsimp only;omega,k6,k7⟩ g
   .exact G (_,_,_) ⟨c3,H,I,e,by dsimp only;omega,by dsimp only;omega,k6,k7⟩ g
  have j2:∀q:AK,∃y,Aim r L t (i:Int) h x3 q=some y/\AGe y.1/\CI y.2:=by
   intro q;unfold Aim;obtain⟨a,ea,_⟩:=Acl h.AG (by omega) q.Id;have eb:=PM (l:=h.AG) (by omega) q.Aa;obtain⟨d,ed⟩:=Acm (h:=h) (p:=q) (by omega) H e;simp only[ea,eb,ed,AB,BZ,AR]
   repeat' split
   all_goals exact j3 _ _
  split<;>exact j2 _
 .rw[decide_eq_false (by omega),BN,AR];exact post _ J ⟨H,I,e,by dsimp only;omega,by dsimp only;omega,k6,k7⟩
theorem Ag5{γ:Type}{P:γ->Prop}{c:Prop} [Decidable c] {x y:AA γ} (a:∃r,x=some r/\P r) (e:∃r,y=some r/\P r):∃r,(if c then x else y)=some r/\P r:=by
 split
 .exact a
 .exact e
theorem AhS{c:AX}(e:CI c){r:AZ}(j:r.AV.length<=1048576)(now:Int):∃x,ARD c r now=some x/\CI x.2:=by
 have g:∀x:AX×AK,CI x.1->∃y,A9g x=some y/\CI y.2:=by
  rintro⟨c,p⟩ h;unfold A9g AJH;dsimp only at h ⊢;obtain⟨a,ea,ca,_⟩:=HV h (l:=[-1,0,2,5,7,1000000,1000001,9223372036854775807,-9223372036854775808]) (by simp);obtain⟨b,eb,_,_,_,cb⟩:=CQ ca 24;obtain⟨d,ed,cd,_⟩:=HV cb (l:=[0,999,1000,-1]) (by simp);rw[ea,AB,eb,AB];simp only[BZ,ed,AB,AR];refine Ag5 ⟨_,rfl,cd⟩ ?_
  iterate 9 refine Ag5 ⟨_,rfl,cb⟩ ?_
  exact⟨_,rfl,cb⟩
 unfold ARD;rw[HS (by omega),AB];obtain⟨x,ex,cx⟩:=AMz e r now;cases Dp r with
 |true=>rw[BH,ex,AB,AR];exact g _ cx|false=>rw[BN,AR];exact g _ e
theorem AM2{c:AX}(E:CI c):∃x,ARE c=some x/\CI x.2:=by
 unfold ARE;obtain⟨H,j,_,_,_,a⟩:=CQ E 6;obtain⟨I,q,_,_,_,e⟩:=CQ a 6;obtain⟨G,y,_,_,_,g⟩:=CQ e 8;obtain⟨J,B,_,_,_,h⟩:=CQ g (w64 (G.1+1));rw[j,AB,q,AB,y,AB,B,AB];exact⟨_,rfl,h⟩
theorem Aeo{c:AX}(y:CI c):∃x,ARF c=some x/\CI x.2:=by
 unfold ARF Aq2;obtain⟨B,h,a⟩:=AM2 y;obtain⟨E,j,e,_⟩:=HV a (l:=[-1,0,60,61,9223372036854775807,-9223372036854775808]) (by simp);obtain⟨G,q,_,_,_,g⟩:=CQ e 16;rw[h,AB,j,AB,q,AB];simp only[BZ,AR]
 repeat' split
 all_goals exact⟨_,rfl,g⟩
theorem AM0{c:AX}(J:CI c):∃x,ARG c=some x/\CI x.2:=by
 unfold ARG A8m;obtain⟨L,y,_,_,_,a⟩:=CQ J 4;obtain⟨O,B,_,_,_,e⟩:=CQ a 20;obtain⟨Q,E,_,_,_,g⟩:=CQ e 12;obtain⟨S,G,_,_,_,h⟩:=CQ g 6;obtain⟨X,H,j,_⟩:=HV h (l:=[-1,0,5,7,1000,1000001,9223372036854775807,-9223372036854775808]) (by simp);obtain⟨Y,I,_,_,_,q⟩:=CQ j 30;rw[y,AB,B,AB,E,AB,G,AB,H,AB,I,AB];simp only[BZ,AR]
 repeat' split
 all_goals exact⟨_,rfl,q⟩
theorem ADE{l:List Ad}(a:l.length<=1000)(e:Ad):∃x,ARH l e=some x/\x.1.length<=l.length+1:=by
 have hlim:lim=268435456:=rfl;have c:(put ltE e l).length=l.length+1:=Ff ..;unfold ARH A3I;rw[dg (by omega),AB,WB _ (by omega),AB,BI,WB _ (by omega),AB];simp only[AR,BI,Rm (show l.length<=lim by omega),AB,BZ]
 repeat' split
 all_goals first|exact⟨_,rfl,by omega⟩|exact⟨_,rfl,by dsimp only;omega⟩
theorem AM1{c:AX}(hc:CI c):∃x,ABC c=some x/\x.1.length<=20/\CI x.2:=by
 have G:∀(n:Nat) (c:AX),n<=20->CI c->∃y,A9h ((n:Int),c)=some y/\y.1.length<=20/\CI y.2:=by
  intro n c hn h;unfold A9h;dsimp only;refine Hl (n:=n) (fun i (v:List Ad×AX)=>(v.1,(i:Int),v.2)) (fun i v=>v.1.length<=i/\CI v.2) _ (by omega) ?_ (v:=([],c)) ⟨Af _,h⟩;rintro L i ⟨l,c⟩ ⟨Y,a⟩ hi g;dsimp only at Y a g ⊢;unfold BCn BBC BCm;dsimp only;rcases AT i n with h|h
  .obtain⟨x,ex,cx⟩:=AM0 a;rw[CC h,BH,ex,AB,BA,BU h (by omega),AR,AR];split
   .obtain⟨q,eq,e⟩:=ADE (l:=l) (by omega) (Ad.mk x.1.Level x.1.Ap (w64 (100+(i:Int))) x.1.A2);rw[eq,AB];exact g (_,_) ⟨Au e (by omega),cx⟩ h
   .obtain⟨q,eq,e⟩:=ADE (l:=l) (by omega) x.1;rw[eq,AB];exact g (_,_) ⟨Au e (by omega),cx⟩ h
  .obtain rfl:i=n:=by omega
   rw[Cp,BN,AR];exact⟨_,rfl,by dsimp only;omega,a⟩
 unfold ABC;obtain⟨r1,Q,I,b1,B,J⟩:=CQ hc 9;obtain⟨r2,S,j⟩:=Me J 12;obtain⟨r3,X,a3,b3,E,O⟩:=CQ j 4;have B:=B (by omega);have E:=E (by omega);obtain⟨n1,Z⟩:=Ab I;obtain⟨H,h3⟩:=Ab a3;rw[Q,AB,S,AB,BZ];split
 .rw[X,AB,AR,Ai (by omega) (by omega),h3,show (10:Int)+(H:Int)=((10+H:Nat):Int) from by omega];exact G _ _ (by omega) O
 .rw[AR,Z];exact G _ _ (by omega) j
theorem Aen{c:AX}(H:CI c):∃x,ARI c=some x/\x.1.length<=1000/\CI x.2:=by
 have hlim:lim=268435456:=rfl;unfold ARI A86;obtain⟨e,q,Q,h⟩:=AM1 H;obtain⟨g,B,_,_,_,a⟩:=CQ h 10;obtain⟨X,E,j⟩:=AM0 a;rw[q,AB,B,AB];cases O:(g.1==0) with
 |true=>
  rw[BH,E,AB,B9 (by rw[Kc];omega),AR];exact⟨_,rfl,by dsimp only;rw[AM,AH,AN];omega,j⟩
 |false=>
  rw[BN];cases G:(g.1==1) with
  |true=>
   rw[BH,BA];split
   .rename_i S;obtain⟨x,I⟩:=F3 (l:=e.1) (i:=0) (by omega) (by omega);obtain⟨y,J⟩:=F3 (l:=e.1) (i:=1) (by omega) (by omega);obtain⟨z,L⟩:=F3 (l:=List.set e.1 (Int.toNat 0) y) (i:=1) (by omega) (by rw[BG];omega);simp only[I,J,L,AB,AR];exact⟨_,rfl,by simp only[BG];omega,a⟩
   .rw[AR];exact⟨_,rfl,by dsimp only;omega,a⟩
  |false=>rw[BN,AR];exact⟨_,rfl,by dsimp only;omega,a⟩
theorem Acn{c:AX}(H:CI c):∃x,sk c=some x/\CI x.2:=by
 unfold sk Aj4;obtain⟨I,q,_,_,_,e⟩:=CQ H 24;obtain⟨J,y,_,_,_,g⟩:=CQ e 12;obtain⟨L,B,_,_,_,a⟩:=CQ g 20;obtain⟨O,E,h,_⟩:=HV a (l:=[0,-1,-9,1000008,1000009,9223372036854775807,-9223372036854775808]) (by simp);obtain⟨Q,G,j,_⟩:=HV a (l:=[0,999,1000,-1]) (by simp);rw[q,AB,y,AB,B,AB];simp only[BZ,AR,E,G,AB]
 repeat' split
 all_goals first|exact⟨_,rfl,h⟩|exact⟨_,rfl,j⟩|exact⟨_,rfl,a⟩
theorem Aeq{c:AX}(E:CI c):∃x,su c=some x/\x.1.length<=8/\CI x.2:=by
 have hlim:lim=268435456:=rfl;unfold su;obtain⟨H,y,j,_,e,q⟩:=CQ E 8;have e:=e (by omega);obtain⟨n,G⟩:=Ab j;rw[y,AB];refine Hl (n:=n) (fun i (v:List A6×AX)=>(v.1,(i:Int),v.2)) (fun i v=>v.1.length<=i/\CI v.2) _ (by omega) ?_ (v:=([],H.2)) ⟨Af _,q⟩;rintro L i ⟨l,c⟩ ⟨B,a⟩ hi g;dsimp only at B a g ⊢;unfold AtT Awc;dsimp only;rw[G];rcases AT i n with h|h
 .obtain⟨x,ex,cx⟩:=Acn a;rw[CC h,BH,ex,AB,B9 (by rw[Kc];omega),BU h (by omega)];exact g (_,_) ⟨by dsimp only;rw[AM,AH,AN];omega,cx⟩ h
 .obtain rfl:i=n:=by omega
  rw[Cp,BN,AR];exact⟨_,rfl,by dsimp only;omega,a⟩
theorem AXc{w:An}(a:w.Ak.length=9)(p:A6):(PU w p).1.Ak.length=9:=by
 unfold PU;split
 .unfold dt;dsimp only;rw[BG];exact a
 .exact a
theorem Ac0{w:An}(a:w.Ak.flatten.length<=10)(p:A6):(PU w p).1.Ak.flatten.length<=10:=by
 unfold PU;split
 .rename_i h;exact(Du.1 h.2.2).few
 .exact a
theorem AM3{c:AX}(I:CI c):∃x,ARJ c=some x/\C1 x.1/\(x.1.Ak.length=9/\x.1.Ak.flatten.length<=10)/\CI x.2:=by
 have hlim:lim=268435456:=rfl;have B:∀(l:List A6) (c:AX),l.length<=100->CI c->∃y,AJN ⟨List.replicate 9 []⟩ (l,c)=some y/\C1 y.1/\(y.1.Ak.length=9/\y.1.Ak.flatten.length<=10)/\CI y.2:=by
  intro l c Q h;unfold AJN;dsimp only;refine Hl (n:=l.length) (fun i (v:An)=>((i:Int),v)) (fun _ v=>C1 v/\v.Ak.length=9/\v.Ak.flatten.length<=10) _ (by omega) ?_ (v:=⟨List.replicate 9 []⟩) ⟨WM,by simp,by simp⟩;rintro L i w ⟨e,g⟩ hi j;unfold BCp BCo;dsimp only;rcases AT i l.length with a|a
  .rw[CC a,BH,A7 a,AB,AB,NR e,AB,BU a (by omega)];exact j _ ⟨jy e _,AXc g.1 _,Ac0 g.2 _⟩ a
  .obtain rfl:i=l.length:=by omega
   rw[Cp,BN,AR];exact⟨_,rfl,e,g,h⟩
 unfold ARJ;obtain⟨J,G,O,E⟩:=Aeq I;obtain⟨S,H,q⟩:=Me E 10;rw[Vu,AB,G,AB,H,AB,BZ];split
 .refine Hl (n:=10) (fun i (v:List A6)=>(v,(i:Int))) (fun i v=>v.length<=8+i) _ (by omega) ?_ (v:=J.1) (by omega);intro L i l e hi j;unfold sv;dsimp only;rw[BA];rcases AT i 10 with h|h
  .rw[if_pos (by omega),B9 (by rw[Kc];omega),BU h (by omega)];exact j _ (by rw[AM,AH,AN];omega) h
  .rw[if_neg (by omega),AR];exact B _ _ (by omega) q
 .rw[AR];exact B _ _ (by omega) q
theorem Aep{c:AX}(Z:CI c):∃x,ARK c=some x/\C1 x.1/\CI x.2:=by
 have hlim:lim=268435456:=rfl;unfold ARK Aj6;obtain⟨e,O,j,⟨h9,X⟩,J⟩:=AM3 Z;obtain⟨E,Q,_,_,_,h⟩:=CQ J 10;rw[O,AB,Q,AB];cases h0:(E.1==0) with
 |true=>
  obtain⟨I,y,a3,_,g,q⟩:=CQ h 9;have g:=g (by omega);obtain⟨k,hk⟩:=Ab a3;have a:k<e.1.Ak.length:=by omega
  obtain⟨G,S,L⟩:=Acn q;have hsl:=I0 a;have h2:=j.2;have hh:Y.Od k 0 [U.sl (C.st 5) (e.1.Ak[k]++[G.1])].length [(k,0)]:=⟨rfl,⟨Af _,by simp⟩,trivial⟩;have B:=w7 a (e.1.Ak[k]++[G.1]);rw[BH,y,AB,hk,A7 a,AB,AB,S,AB,B9 (by rw[Kc];omega),AB,AB,Int.toNat_natCast,B9 hh,AR];refine⟨_,rfl,⟨by dsimp only;rw[BG];omega,?_⟩,L⟩;rw[AM,AH,AN]at B;show (e.1.Ak.set k (e.1.Ak[k]++[G.1])).flatten.length<=_;omega
 |false=>
  rw[BN];cases h1:(E.1==1) with
  |true=>
   obtain⟨I,y,a3,_,g,q⟩:=CQ h 10;have g:=g (by omega);rw[BH,y,AB,B9 ⟨by omega,by omega⟩,AR];refine⟨_,rfl,⟨?_,?_⟩,q⟩
   .dsimp only;rw[BS,BT];omega
   .dsimp only;have H:=congrArg (fun s=>s.flatten.length) (List.take_append_drop (I.1.toNat-0) e.1.Ak);simp only[EJ,AM]at H;have:=j.2;rw[List.drop_zero];omega
  |false=>
   rw[BN];cases H:(E.1==2) with
   |true=>
    rw[BH,B9 (by omega),AR];refine⟨_,rfl,⟨?_,?_⟩,h⟩
    .dsimp only;rw[AM,AH,AN];omega
    .dsimp only;rw[EJ];simpa using j.2
   |false=>rw[BN,AR];exact⟨_,rfl,j,h⟩
theorem Ack{c:AX}(H:CI c):∃x,ARL c=some x/\DI x.1/\CI x.2:=by
 unfold ARL Arf;obtain⟨O,E,B⟩:=Me H 4;rw[E,AB,BZ];split
 .obtain⟨I,h,a⟩:=Aeo B;obtain⟨J,j,G,e⟩:=Aen a;obtain⟨L,q,y,g⟩:=Aep e;rw[h,AB,j,AB,q,AB];exact⟨_,rfl,⟨by dsimp only;omega,y⟩,g⟩
 .unfold sx;obtain⟨I,h,a⟩:=AM2 B;obtain⟨J,j,G,e⟩:=AM1 a;obtain⟨L,q,y,_,g⟩:=AM3 e;rw[h,AB,j,AB,q,AB,AB,BZ,AR,AR];split<;>exact⟨_,rfl,⟨by dsimp only;omega,y⟩,g⟩
theorem AMv{c:AX}(S:CI c):∃x,Px c=some x/\Bp x.1/\CI x.2/\Nk x.1:=by
 have hlim:lim=268435456:=rfl;unfold Px Aj7;obtain⟨h,L,⟨b1,b2,b3,X,b4,b5,b6,nk⟩,I⟩:=Agc S;obtain⟨r2,O,J,Y⟩:=HV I (l:=[-1,0,1,3,1000000,1000001,1000002,9223372036854775807,-9223372036854775808]) (by simp);obtain⟨E,Q,_,_,_,e⟩:=CQ J 40;obtain⟨a,j,B,g,f5,f6⟩:=X;rw[L,AB,O,AB,Q,AB];cases k0:(E.1==0) with
 |true=>
  rw[BH,AR];refine⟨_,rfl,⟨a,j,B,g,f5,f6⟩,e,?_⟩;simp only[List.mem_cons,List.not_mem_nil,or_false]at Y;unfold Nk;dsimp only;omega
 |false=>
 rw[BN];cases k1:(E.1==1) with
 |true=>rw[BH,AR];exact⟨_,rfl,⟨a,j,B,g,f5,f6⟩,e,nk⟩|false=>
 rw[BN];cases k2:(E.1==2) with
 |true=>
  rw[BH,B9 (by rw[Kc];omega),AR];exact⟨_,rfl,⟨a,j,B,g,by dsimp only;rw[AM,AH,AN];omega,f6⟩,e,nk⟩
 |false=>
 rw[BN];cases k3:(E.1==3) with
 |true=>
  rw[BH,B9 (by rw[Kc];omega),AR];exact⟨_,rfl,⟨a,j,B,g,f5,by dsimp only;rw[AM,AH,AN];omega⟩,e,nk⟩
 |false=>
 rw[BN];cases k4:(E.1==4) with
 |true=>
  obtain⟨p,ep,cp⟩:=AhS e a h.1.Now;rw[BH,ep,AB,B9 (by rw[Kc];omega),AR];exact⟨_,rfl,⟨a,by dsimp only;rw[AM,AH,AN];omega,B,g,f5,f6⟩,cp,nk⟩
 |false=>
 rw[BN];cases k5:(E.1==5) with
 |true=>
  rw[BH,BA];split
  .obtain⟨x,G⟩:=F3 (l:=h.1.AG) (i:=0) (by omega) (by omega);simp only[G,AB,AR];exact⟨_,rfl,⟨a,by simp only[BG];exact j,B,g,f5,f6⟩,e,nk⟩
  .rw[AR];exact⟨_,rfl,⟨a,j,B,g,f5,f6⟩,e,nk⟩
 |false=>
 rw[BN];cases k6:(E.1==6) with
 |true=>
  rw[BH,Ai (by omega) (by omega),B9 ⟨by omega,by omega⟩,AR];refine⟨_,rfl,⟨a,j,?_,?_,f5,f6⟩,e,nk⟩
  .dsimp only;rw[BS,BT];omega
  .intro x G;exact g x (List.mem_of_mem_drop (List.mem_of_mem_take G))
 |false=>
 rw[BN];cases k7:(E.1==7) with
 |true=>
  obtain⟨q,eq,Z,cq⟩:=Ack e;obtain⟨x,G⟩:=F3 (l:=h.1.AI) (i:=0) (by omega) (by omega);rw[BH,eq,AB,G,AB,AB,AR];refine⟨_,rfl,⟨a,j,by simp only[BG];exact B,?_,f5,f6⟩,cq,nk⟩;intro y H;rcases E9 H with H|rfl
  .exact g y H
  .exact Z
 |false=>
 rw[BN];cases k8:(E.1==8) with
 |true=>rw[BH,AR];exact⟨_,rfl,⟨a,j,B,g,f5,f6⟩,e,nk⟩|false=>
 rw[BN];cases k9:(E.1==9) with
 |true=>
  rw[BH,BA];split
  .obtain⟨x,G⟩:=F3 (l:=h.1.AG) (i:=0) (by omega) (by omega);obtain⟨y,H⟩:=F3 (l:=h.1.AG) (i:=1) (by omega) (by omega);simp only[G,H,AB,AR];exact⟨_,rfl,⟨a,by simp only[BG];exact j,B,g,f5,f6⟩,e,nk⟩
  .rw[AR];exact⟨_,rfl,⟨a,j,B,g,f5,f6⟩,e,nk⟩
 |false=>rw[BN,AR];exact⟨_,rfl,⟨a,j,B,g,f5,f6⟩,e,nk⟩
theorem APo{c:AX}(h:CI c):∃x,Px c=some x/\Bp x.1/\CI x.2:=by
 obtain⟨x,a,e,g,_⟩:=AMv h;exact⟨x,a,e,g⟩
theorem APV(l:List Ad):Eb eqE l l=true:=(IK ou).2 rfl
theorem APW(l:List A6):Eb eqP l l=true:=(IK oz).2 rfl
theorem ADc(x:Int):(x==x)=true:=beq_self_eq_true x
theorem APY{r:AZ}(a:r.AV.length<=1048576):nH r r=some true:=by
 unfold nH Arh;simp only[Jv (show r.AV.length<2 ^ 62 by omega),Uf.2,AB,ADc,BH,AR]
theorem APZ{w:An}(a:C1 w)(c:HE w=true):AJS w w=some true:=by
 unfold AJS A3O;have e:=Io a;simp only[HU a,c,N6 a,TL (show (Eo w).length<2 ^ 62 by omega),APW,AB,BH,AR]
theorem APX{c:AY}(e:DI c)(a:Mg c=true):ABb c c=some true:=by
 have g:HE c.Bw=true:=by
  unfold Mg at a;simp only[AF]at a;exact a.2.2
 have h:=e.1;unfold ABb s5;simp only[PL e,a,ADc,Cd,WC (show c.Row.length<2 ^ 62 by omega),APV,APZ e.2 g,AB,BH,AR]
theorem zE{h:AD}(a:Bp h)(j:DR h=true):ABc h h=some true:=by
 have q:=a.Dd;have E:=a.CS;have G:=a.EG;have H:=a.todo;have I:=a.F4;unfold ABc A1F;simp only[GW a,j,APY q,Jv (show h.BC.length<2 ^ 62 by omega),Jv (show h.A8.length<2 ^ 62 by omega),Uf.2,ne_self,AB,Br,BN,AR];have y:A3Q h h ()=some true:=by
  unfold A3Q;have key:=iR (n:=h.AI.length) (F:=A9i h h) (by omega) ?_ ?_
  .rw[ne_self,BN]at key;exact key
  .intro L i hi;have e:Mg h.AI[i]=true:=by
    have c:=KD.1 (J0 j).2.2.2.2.2.2.2.2.2 i hi;unfold eJ at c;rw[Cc hi]at c;unfold Ki at c;simp only[AF]at c;exact c.2.1.1
   unfold A9i;rw[CC hi,BH,A7 hi,AB,AB,APX (a.De _ (List.getElem_mem hi)) e,AB,BI,BH]
  .intro L;unfold A9i BCq;rw[Cp,BN,AR]
 rw[<-y];refine(C6 (n:=h.AG.length) (fun i (_:Unit)=>(i:Int)) (fun _ _=>True) (fun _ _=>A3Q h h ()) (by omega) ?_ (v:=()) trivial);intro L i _ _ hi B;unfold BCr;rcases AT i h.AG.length with g|g
 .rw[CC g,BH,A7 g,AB,AB,BU g (by omega)];simp only[ADc,Cd,Br,BN];exact B () trivial g
 .obtain rfl:i=h.AG.length:=by omega
  rw[Cp,BN,AR]
theorem Ael{c:AX}(Z:CI c){h:AD}(hh:Bp h):∃x,AA8 c h=some x/\CI x.2:=by
 unfold AA8;obtain⟨x1,Q,_,_,_,I⟩:=CQ Z 12;have j4:∀x:AX×BX,BA7 x=some (x.2,x.1):=fun _=>rfl
 have j5:∀(v x:Int) (y:Int×AX) (b:Bool),CI y.2->∃z,A9e h v x y b=some z/\CI z.2:=by
  intro v x y b a;unfold A9e;obtain⟨H,e,_,_,_,g⟩:=CQ a x;obtain⟨z2,j,_,_,_,B⟩:=CQ g 4;obtain⟨z3,q,_,_,_,E⟩:=CQ a (if 1>h.AO.Cs then 1 else h.AO.Cs);simp only[e,j,q,Ns,AB,BZ]
  repeat' split
  all_goals first|exact⟨_,rfl,B⟩|exact⟨_,rfl,a⟩|exact⟨_,rfl,E⟩
 have j3:∀(v x:Int) (y:Int×AX) (b:Bool),CI y.2->∃z,A8l h v x y b=some z/\CI z.2:=by
  intro v x y b a;unfold A8l;obtain⟨H,e,_,_,_,g⟩:=CQ a 14;obtain⟨z2,j,_,_,_,B⟩:=CQ g x;obtain⟨z3,q,_,_,_,E⟩:=CQ B (if 1>h.AO.A2 then 1 else h.AO.A2);obtain⟨z4,S,_,_,_,X⟩:=CQ E (if 1>h.AO.CJ then 1 else h.AO.CJ);obtain⟨z5,f5,J⟩:=Me X 3;obtain⟨z6,f6,_,_,_,Y⟩:=CQ J x;simp only[e,j,q,S,f5,f6,Ns,AB,BZ,AR,Cw,Ja,Jb,Jc,Jd,I9,Je,Jf,MH,j4]
  repeat' split
  all_goals first|exact⟨_,rfl,Y⟩|exact⟨_,rfl,J⟩|exact⟨_,rfl,a⟩|exact j5 _ _ _ _ a
 have G:∀x:Int×AX,CI x.2->∃z,A9d h x=some z/\CI z.2:=by
  rintro⟨v,c⟩ a;unfold A9d;dsimp only at a ⊢;obtain⟨H,e,_,_,_,g⟩:=CQ a 12;simp only[e,Ns,AB,BZ,AR]
  repeat' split
  all_goals exact j3 _ _ _ _ g
 have hp:=hh.CS;rw[Q,AB,BA];split
 .rename_i h0;obtain⟨o,eo,co⟩:=Me I 3;rw[eo,AB,AR];unfold A9c;dsimp only;rw[BZ];split
  .obtain⟨H,e,L,_,O,g⟩:=CQ co (h.AG.length:Int);obtain⟨k,hk⟩:=Ab L;have:=O (by omega);rw[e,AB,hk,A7 (by omega),AB,AR];exact G _ g
  .rw[AR];exact G _ co
 .rw[AR];unfold A9c;dsimp only;rw[BN,AR];exact G _ I
theorem AMu{c:AX}(e:CI c){h:AD}(g:Bp h):∃x,sO c h=some x/\CI x.2:=by
 unfold sO;obtain⟨q,eq,cq⟩:=Ael e g;obtain⟨a,ea,ca,_⟩:=HV cq (l:=([-1,0,1,4,7,61,1000,9999,10000,9223372036854775807,-9223372036854775808]:List Int)) (by simp);obtain⟨b,eb,_,_,_,cb⟩:=CQ ca 20;have j:∀x:AX×BX,A8T x=some (x.2,x.1):=fun _=>rfl
 simp only[eq,ea,eb,AB,BZ,AR,j]
 grind
theorem AhU{c:AX}(j:CI c){h:AD}(y:Bp h):∃x,s6 c h=some x/\CI x.2:=by
 have G:=y.CS;unfold s6;have B:([4,4,5]:List Int)≠[]:=by simp
 refine Hl (n:=h.AG.length) (fun i (v:AX)=>((i:Int),v)) (fun _ v=>CI v) (fun x:BX×AX=>CI x.2) (by omega) ?_ j;intro L i v e hi H;unfold BCt;dsimp only;rcases AT i h.AG.length with a|q
 .rw[CC a,BH,A7 a,AB,BZ];have g:∀x:Bool×AX,CI x.2->∃r,Ari h L i x=some r/\CI r.2:=by
   rintro⟨b,w⟩ E;unfold Ari;dsimp only;obtain⟨z,ez,cz,_⟩:=HV E B
   grind[A7,AB,BU,BZ]
  obtain⟨o,eo,co⟩:=Me e 3;rw[eo,AB];simp only[AR];split
  .exact g _ co
  .exact g _ e
 .obtain rfl:i=h.AG.length:=by omega
  rw[Cp,BN,AR];unfold BCs;obtain⟨o,eo,co⟩:=Me e 4;obtain⟨z,ez,_,_,_,cz⟩:=CQ co (if 1>(h.A8.length:Int) then 1 else (h.A8.length:Int));rw[eo,AB,BZ,Ns,AB,ez,AB];split
  .exact⟨_,rfl,co⟩
  .exact⟨_,rfl,cz⟩
theorem AUa.fit{r:AZ}(c:Dp r=true){h:AD}(e:AUa r 0 h):Bp h:=by
 obtain⟨g,j,a3,a4,q,y,a,B,E⟩:=e;have G:=CT c;exact⟨a3,by omega,by omega,a,by omega,by omega⟩
end Lv.P
