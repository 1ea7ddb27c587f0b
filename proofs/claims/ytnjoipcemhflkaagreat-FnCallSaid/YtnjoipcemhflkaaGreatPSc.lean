/- Plain laws about what the program computes. -/
import Derived.Test.YtnjoipcemhflkaaGreatPGc
import Derived.Test.YtnjoipcemhflkaaGreatPKc
set_option linter.unusedVariables false
set_option linter.unusedSimpArgs false
set_option linter.unusedSectionVars false
open Bool renaming and_eq_true->AF,and_true->CA,not_true->Bp
open Int renaming eq_ofNat_of_zero_le->AZ
open List renaming flatten_append->Dj,length_append->AN,length_cons->AI,length_drop->BD,length_filterMap_le->Bh,length_nil->AP,length_set->Am,length_take->BH,mem_or_eq_of_mem_set->ES
open Nat renaming le_refl->Ab,le_trans->Ar,lt_or_ge->AV
namespace Lv.P
open Lv Go
theorem AJd(a:Int):0<=bB a 255/\bB a 255<=255:=by
 unfold bB;have e:(BitVec.ofInt IntKind.i64.bits 255).toNat=255:=rfl
 grind[BitVec.toNat_and,BitVec.ofInt,Nat.and_le_right,Tt]
theorem ANs(s:List UInt8):AJ2 s=some (decide ((s.length:Int)>1048576)):=rfl
def B7(c:AY):Prop:=0<=c.i_/\c.i_<=c.b_.length/\c.b_.length<=1048576
theorem AV0{s:List UInt8}(a:s.length<=1048576):∃c,AD4 s=some c/\B7 c:=by
 unfold AD4;refine JB (n:=s.length) (fun i (v:Int)=>(v,(i:Int))) (fun _ _=>True) B7 (by omega) ?_ trivial;intro L i v _ hi e;unfold vW cY vV;dsimp only;simp only[AT,dec_lt];rcases AV i s.length with h|h
 .rw[decide_eq_true h,BP,BJ,A9 h,AB,BX h (by omega)];split
  .exact e _ trivial h
  .exact⟨_,rfl,by simp,by simp,a⟩
 .rw[decide_eq_false (by omega),BS,BS];exact⟨_,rfl,by simp,by simp,a⟩
theorem AAF{c:AY}(j:B7 c):∃r,ZG c=some r/\0<=r.1/\r.1<=255/\B7 r.2:=by
 obtain⟨a,g,e⟩:=j;unfold ZG cZ;rw[BJ];obtain⟨i,hi⟩:=AZ a;split
 .rename_i h;rw[hi,A9 (by omega),AB,AT];have:=AJd (w64 (bB (T0 (DV (w64 (w64 (c.h_*6364136223846793005)+1442695040888963407)) 33) (DV (w64 (w64 (c.h_*6364136223846793005)+1442695040888963407)) 45)) 255+w64 (↑(UInt8.toNat c.b_[i]):Int)));refine⟨_,rfl,this.1,this.2,?_⟩;rw[A4 (n:=(i:Int)+1) (by omega) (by omega)];exact⟨by dsimp only;omega,by dsimp only;omega,e⟩
 .rw[AT];have:=AJd (T0 (DV (w64 (w64 (c.h_*6364136223846793005)+1442695040888963407)) 33) (DV (w64 (w64 (c.h_*6364136223846793005)+1442695040888963407)) 45));exact⟨_,rfl,this.1,this.2,a,g,e⟩
theorem jd{a n:Int}(c:0<=a)(e:0<n):0<=Int.tmod a n/\Int.tmod a n<n:=by
 rw[Int.tmod_eq_emod_of_nonneg c];exact⟨Int.emod_nonneg _ (by omega),Int.emod_lt_of_pos _ e⟩
theorem CF{c:AY}(q:B7 c)(n:Int):∃r,Bz c n=some r/\0<=r.1/\(n<=0->r.1=0)/\(0<n->r.1<n)/\B7 r.2:=by
 unfold Bz;rw[BJ];by_cases y:n<=0
 .rw[if_pos y];exact⟨_,rfl,by simp,by simp,by omega,q⟩
 rw[if_neg y,BJ];split
 .obtain⟨r,e,S,h2,h3⟩:=AAF q;rw[e,AB,Bt (by omega)];have:=jd S (show 0<n by omega)
  grind
 .obtain⟨g,J,X,Z,E⟩:=AAF q;obtain⟨h,L,Y,b2,G⟩:=AAF E;obtain⟨j,O,a3,b3,H⟩:=AAF G;obtain⟨B,Q,a4,b4,I⟩:=AAF H;rw[J,AB,L,AB,O,AB,Q,AB,Bt (by omega)];rw[A4 (n:=g.1*16777216) (by omega) (by omega),A4 (n:=h.1*65536) (by omega) (by omega),A4 (n:=j.1*256) (by omega) (by omega)];rw[A4 (n:=g.1*16777216+h.1*65536) (by omega) (by omega),A4 (n:=g.1*16777216+h.1*65536+j.1*256) (by omega) (by omega),A4 (n:=g.1*16777216+h.1*65536+j.1*256+B.1) (by omega) (by omega)];have:=jd (a:=g.1*16777216+h.1*65536+j.1*256+B.1) (by omega) (show 0<n by omega);exact⟨_,rfl,this.1,by omega,fun _=>this.2,I⟩
theorem Mz{c:AY}(a:B7 c)(n:Int):∃r,Ka c n=some r/\B7 r.2:=by
 obtain⟨r,e,_,_,_,h⟩:=CF a n;unfold Ka;rw[e,AB];exact⟨_,rfl,h⟩
theorem Hv{c:AY}(a:B7 c){l:List Int}(g:l≠[]):∃r,Nr c l=some r/\B7 r.2/\r.1∈l:=by
 unfold Nr;have B:0<l.length:=by cases l with|nil=>exact absurd rfl g|cons=>simp
 obtain⟨r,e,h,j,q,y⟩:=CF a (l.length:Int)
 grind[Int.eq_ofNat_of_zero_le,AB,A9,List.getElem_mem]
theorem APz{c:AY}(e:B7 c):∃r,vX c=some r/\r.1.AW.length<=3/\Dd r.1=true/\B7 r.2:=by
 unfold vX;obtain⟨r1,j,X,Y,a,g⟩:=CF e 5;obtain⟨r2,e2,a2,b2,B,Z⟩:=CF g 9;obtain⟨r3,e3,a3,b3,E,c3⟩:=CF Z 6;obtain⟨r4,e4,a4,b4,G,c4⟩:=CF c3 5;obtain⟨r5,e5,a5,b5,H,c5⟩:=CF c4 4;obtain⟨r6,e6,a6,b6,I,c6⟩:=CF c5 4;obtain⟨r7,e7,a7,b7,J,c7⟩:=CF c6 4;obtain⟨r8,e8,a8,b8,O,c8⟩:=CF c7 3;obtain⟨q,e9,a9,b9,d9,c9⟩:=CF c8 3;simp only[j,e2,e3,e4,e5,e6,e7,e8,e9,AB];have a:=a (by omega);have B:=B (by omega);have E:=E (by omega);have G:=G (by omega);have H:=H (by omega);have I:=I (by omega);have J:=J (by omega);have O:=O (by omega);have h9:=d9 (by omega);obtain⟨n,hn⟩:=AZ (show 0<=1+q.1 by omega);refine JB (n:=n) (fun i (v:AY×Aa)=>((i:Int),v.1,v.2)) (fun i v=>B7 v.1/\∃ss:List Int,v.2=⟨ss,w64 (1+r1.1),w64 (2+r2.1),w64 (1+r3.1),w64 (1+r4.1),w64 (1+r5.1),r6.1,w64 (1+r7.1),w64 (1+r8.1)⟩/\ss.length=i/\∀x∈ss,2<=x/\x<=13) _ (by omega) ?_ (v:=(q.2,_)) ⟨c9,[],rfl,rfl,by simp⟩;rintro L i ⟨c,r⟩ ⟨e,ss,Q,hs,hx⟩ hi S;unfold vZ vY;dsimp only at e Q S ⊢;subst Q;rw[A4 (n:=1+q.1) (by omega) (by omega),hn,dec_lt];rcases AV i n with h|h
 .obtain⟨y,j,X,Y,a,g⟩:=CF e 12;have a:=a (by omega);rw[decide_eq_true h,BP,j,AB,Bt (by simp only[AI,AP];unfold lim;omega),BX h (by omega)];refine S (_,_) ⟨g,_,rfl,by simp[hs],?_⟩ h
  grind[List.mem_singleton,A4]
 .rw[decide_eq_false (by omega),BS,AT]
  grind[Dd,B8,List.all_eq_true,A4]
def Nk(h:AE):Prop:=-9223372036854775808<=h.Now/\h.Now<9223372036854775808
def AGk(r:Aa)(n:Nat)(h:AE):Prop:=h.AH.length<=h.AR.AW.length/\h.AH.length<=r.AW.length/\h.AR.AW.length<=1048576/\h.AG.length<=n/\h.Az.length<=n/\h.Ay.length<=3/\(∀c∈h.AH,EU c)/\1<=h.AH.length/\Nk h
theorem AJI{r:Aa}(g:r.AW.length<=3)(a:Dd r=true):∃x,kq r=some x/\AGk r 0 x.1:=by
 have c:=Qp (r:=r) (by omega);have e:=B2 a;refine⟨_,iO (by omega),?_⟩;unfold AGk;refine⟨?_,?_,c.Df,?_,?_,?_,c.Dk,?_,?_⟩<;>(unfold Io;rw[if_pos a])<;>simp[Nk]<;>omega
theorem AP9(l:List AQ)(c:l.length<2 ^ 62)(n:Int):∃i,Vt l n=some i/\(i<0\/∃k:Nat,i=k/\k<l.length):=by
 unfold Vt;refine JB (n:=l.length) (fun i (_:Unit)=>(i:Int)) (fun _ _=>True) _ (by omega) ?_ (v:=()) trivial;intro L i _ _ hi a;unfold cj ch;rw[dec_lt];rcases AV i l.length with h|h
 .rw[decide_eq_true h,BP,A9 h,AB,Bb,BX h (by omega)];split
  .grind
  .exact a () trivial h
 grind[decide_eq_false,BS,AT]
theorem AAM{c:AY}(hc:B7 c)(r:Aa)(now:Int):∃x,va c r now=some x/\B7 x.2:=by
 obtain⟨r1,S,a1,b1,d1,I⟩:=CF hc 12;obtain⟨r2,X,a2,b2,d2,J⟩:=CF I (r.AW.length:Int);obtain⟨r3,Y,a3,b3,d3,L⟩:=CF J r.A5;obtain⟨r4,Z,a4,b4,d4,O⟩:=CF L r.CK;obtain⟨r5,e5,a5,b5,d5,Q⟩:=CF O 40;obtain⟨r6,e6,a6,b6,d6,E⟩:=CF Q r.CP;have H:∀x:AY×AQ,B7 x.1->∃y,cg x=some y/\B7 y.2:=by
  rintro⟨c,p⟩ h;exact⟨_,rfl,h⟩
 have B:∀x:AY×AQ,B7 x.1->∃y,R7 r x=some y/\B7 y.2:=by
  rintro⟨c,p⟩ h;unfold R7;obtain⟨o,eo,a⟩:=Mz h 4;dsimp only;rw[eo,AB,Bb,AT];split
  .obtain⟨q,eq,_,_,_,e⟩:=CF a (r.AW.length:Int);rw[eq,AB,AT];exact H _ e
  .exact H _ a
 have G:∀x:AY×AQ,B7 x.1->∃y,Vr r now x=some y/\B7 y.2:=by
  rintro⟨c,p⟩ h;unfold Vr;obtain⟨o,eo,a⟩:=Mz h 3;dsimp only;rw[eo,AB,Bb,AT];split
  .obtain⟨q,eq,_,_,_,e⟩:=CF a (w64 (now+r.Bq));rw[eq,AB,AT];exact B _ e
  .exact B _ a
 unfold va;simp only[S,X,Y,Z,e5,e6,AB,CQ,Ic,Ie,Ig,Ih,H5,Ii,Ij,D7,Ku,GC,Bb,AT];split
 .obtain⟨q,eq,_,_,_,e⟩:=CF E (w64 (now+1));obtain⟨o,eo,a⟩:=Mz e 3;rw[eq,AB,eo,AB];split
  .obtain⟨q',g,_,_,_,j⟩:=CF a (w64 (w64 (now+r.Rest)+1));rw[g,AB];exact G _ j
  .exact G _ a
 .exact B _ E
theorem AQA{h:AE}{p:AQ}(c:h.AG.length<=1000)(e:h.AH.length<=h.AR.AW.length)(j:h.AR.AW.length<=1048576):∃b,AD5 h p=some b:=by
 unfold AD5;simp only[List.nil_append,CQ,Ic,Ie,Ig,Ih,H5,Ii,Ij,D7,Ku];have q:(h.AG).length=h.AG.length:=by simp
 rw[Bt (by unfold lim;omega),Bt (by simp only[AI,AP];unfold lim;omega),Bt (by unfold lim;omega),Bt (by simp only[AI,AP];unfold lim;omega),Bt (by unfold lim;omega),Bt (by simp only[AI,AP];unfold lim;omega)];obtain⟨r,h,_⟩:=JB (F:=cm h p) (n:=h.AH.length) (fun i (_:Unit)=>(i:Int)) (fun _ _=>True) (fun _=>True) (by omega) (by
  intro L i v _ hi a;unfold cm vd;rw[dec_lt];rcases AV i h.AH.length with g|g
  .have ea:=Oq (l:=[]++h.AG++[p]) (by simp;omega) (i:Int);have eb:=Ot (l:=[]++h.AG++[p]) (by simp;omega) (i:Int);rw[decide_eq_true g,BP,A9 (show i<h.AR.AW.length by omega),AB,ea,AB,eb,AB,Bb,BX g (by omega)];split
   .exact⟨_,rfl,trivial⟩
   .exact a () trivial g
  .rw[decide_eq_false (by omega),BS,AT];exact⟨_,rfl,trivial⟩) (v:=()) trivial
 exact⟨r,h⟩
theorem AJJ{l:List AQ}(e:l.length<=1000)(p:AQ):∃r,T5 l p=some r/\r.length<=l.length+1:=by
 unfold T5;obtain⟨i,ei,hi⟩:=AP9 l (by omega) p.Id;rw[ei,AB,Bt (by unfold lim;omega),BJ];split
 .grind[A9,AB]
 .refine JB (n:=l.length) (fun i (_:Unit)=>(i:Int)) (fun _ _=>True) _ (by omega) ?_ (v:=()) trivial;intro L i _ _ hi c;have a:∃r,R9 l p (i:Int)=some r/\r.length<=l.length+1:=by
   grind[R9,CQ,Ic,Ie,Ig,Ih,H5,Ii,Ij,D7,Ku,Int.toNat_natCast,List.length_take,Bt,lim,List.length_cons,List.length_nil,List.length_append,List.length_drop]
  unfold Vu R8;rw[dec_lt];rcases AV i l.length with h|h
  .rw[decide_eq_true h,BP,A9 h,AB,AT,BJ,BX h (by omega),AT];split
   .exact c () trivial h
   .exact a
  .rw[decide_eq_false (by omega),BS,AT,BS,AT];exact a
theorem AUp{r:Aa}(q:r.AW.length<2 ^ 62){l:List AQ}(y:l.length<=400){k:Nat}(j:k<r.AW.length)(now x:Int):∃c,AEN r l k now x=some c/\EU c:=by
 unfold AEN;obtain⟨ps,ep,B⟩:∃ps,AAx l (k:Int)=some ps/\ps.length<=400:=⟨_,Sy (by omega) _,by unfold FO;rw[HF];have:=Bh (MH (k:Int)) l;omega⟩;rw[Q0,AB,ep,AB];obtain⟨c,g,a⟩:=JB (F:=dZ r l (k:Int) now x ps) (n:=ps.length) (fun i (v:Aj)=>((i:Int),v)) (fun i v=>Cv v) (fun c=>EU c) (by omega) (by
  intro L i v e hi G;unfold dZ wv;dsimp only;rw[dec_lt];rcases AV i ps.length with h|h
  .have ey:=Lh e ps[i];have E:=Xa e ps[i]
   grind[decide_eq_true,BP,A9,AB,BX]
  .have ea:=Oq (l:=l) (by omega) (k:Int);have eb:=Ot (l:=l) (by omega) (k:Int);have eq:=NG q (l:=l) (by omega) (k:Int) now;rw[decide_eq_false (by omega),BS,AT,ea,AB,eb,AB,A9 j,AB,MF,AB,eq,AB];refine⟨_,rfl,?_,e⟩;dsimp only;unfold DM;rw[HF];have:=Bh (Kx r (k:Int) now) l;omega) (v:=⟨List.replicate 9 []⟩) RQ
 exact⟨c,g,a⟩
theorem AP0{l:List Int}(a:l.length<=1048576)(n:Int):∃r,RY l n=some r/\r.length<=l.length+1:=by
 grind[RY,RG,Bt,lim,AB,Bb,List.length_cons,List.length_nil]
def tk(h:AE):Prop:=h.AG.length<=400/\h.AH.length<=1000/\h.AR.AW.length<=1048576/\Bf h/\1<=h.AH.length/\h.Az.length<=2000/\h.Ay.length<=1000/\Nk h
theorem ATl{c:AY}(E:B7 c):∃x,AEO c=some x/\tk x.1/\B7 x.2:=by
 unfold AEO;obtain⟨r,er,hr,hrb,cr⟩:=APz E;obtain⟨h,eh,B⟩:=AJI hr hrb;obtain⟨a,ea,a1,a2,a3,ca⟩:=CF cr 20;obtain⟨b,eb,b1,b2,b3,cb⟩:=CF ca 9;have hb:=b3 (by omega);rw[er,AB,eh,AB,ea,AB,eb,AB];obtain⟨n,hn⟩:=AZ b1;have post:∀x:AY×AE,B7 x.1->AGk r.1 100 x.2->∃y,db r x=some y/\tk y.1/\B7 y.2:=by
  rintro⟨c,h⟩ E B;unfold db;dsimp only at E B ⊢;have hcn:=B.2.1;refine JB (n:=h.AH.length) (fun i (v:AY×AE)=>((i:Int),v.1,v.2)) (fun i v=>B7 v.1/\v.2.AH.length=h.AH.length/\v.2.AG.length<=100/\v.2.Az.length<=100+i/\v.2.AR.AW.length<=1048576/\v.2.Ay.length<=3/\(∀c∈v.2.AH,EU c)/\Nk v.2) _ (by omega) ?_ (v:=(c,h)) ⟨E,rfl,B.2.2.2.1,by dsimp only;have:=B.2.2.2.2.1;omega,B.2.2.1,B.2.2.2.2.2.1,B.2.2.2.2.2.2.1,B.2.2.2.2.2.2.2.2⟩;rintro L i ⟨c,Q⟩ ⟨J,O,Z,g4,S,g6,X,Y⟩ hi G;dsimp only at J O Z g4 S g6 X Y G ⊢;unfold w6 de wy;dsimp only;rw[O,dec_lt];rcases AV i h.AH.length with g|g
  .obtain⟨x,ex,_,_,_,cx⟩:=CF J 6;obtain⟨m,em,hm⟩:=AUp (r:=r.1) (by omega) (l:=Q.AG) (by omega) (k:=i) (by omega) Q.Now x.1;obtain⟨o,eo,co⟩:=Mz cx 2;obtain⟨t,et,ht⟩:=AP0 (l:=Q.Az) (by omega) (i:Int);rw[decide_eq_true g,BP,ex,AB,em,AB,A9 (by omega),AB,AB,eo,AB,Bb,et,AB,AT,AT,BX g (by omega)];split
   .exact G (_,_) ⟨co,by simp[O],Z,by dsimp only;omega,S,g6,fun c E=>by
     rcases ES E with E|rfl
     .exact X c E
     .exact hm,Y⟩ g
   .exact G (_,_) ⟨co,by simp[O],Z,by dsimp only;omega,S,g6,fun c E=>by
     rcases ES E with E|rfl
     .exact X c E
     .exact hm,Y⟩ g
  .rw[decide_eq_false (by omega),BS,AT];refine JB (n:=Q.Ay.length) (fun j (v:AY×AE)=>((j:Int),v.1,v.2)) (fun j v=>B7 v.1/\v.2.Ay.length=Q.Ay.length/\tk v.2) _ (by omega) ?_ (v:=(c,Q)) ⟨J,rfl,by dsimp only;omega,by dsimp only;omega,S,⟨S,by dsimp only;omega,by dsimp only;omega,X,by dsimp only;omega,by dsimp only;omega⟩,by have:=B.2.2.2.2.2.2.2.1;dsimp only;omega,by dsimp only;omega,by dsimp only;omega,Y⟩;rintro L j ⟨c,h2⟩ ⟨H,I,e⟩ hj G;dsimp only at H I e G ⊢;unfold w7 YA lY;dsimp only;rw[I,dec_lt];rcases AV j Q.Ay.length with k|k
   .obtain⟨o,eo,co⟩:=Mz H 3;obtain⟨x,ex,_,_,_,cx⟩:=CF co (r.1.AW.length:Int);rw[decide_eq_true k,BP,eo,AB,Bb,ex,AB,A9 (by omega),AB,AB,AT,AT,BX k (by omega)];split
    .exact G (_,_) ⟨cx,by simp[I],e.1,e.2.1,e.2.2.1,⟨e.2.2.2.1.Df,e.2.2.2.1.B4,e.2.2.2.1.De,e.2.2.2.1.Dk,e.2.2.2.1.todo,by simp only[Am];exact e.2.2.2.1.E8⟩,e.2.2.2.2.1,e.2.2.2.2.2.1,by simp only[Am];exact e.2.2.2.2.2.2.1,e.2.2.2.2.2.2.2⟩ k
    .exact G (_,_) ⟨co,I,e⟩ k
   .rw[decide_eq_false (by omega),BS,AT];exact⟨_,rfl,e,H⟩
 refine JB (n:=n) (fun i (v:Int×AY×AE)=>(v.1,(i:Int),v.2.1,v.2.2)) (fun i v=>B7 v.2.1/\AGk r.1 i v.2.2) _ (by omega) ?_ (v:=(0,b.2,_)) ⟨cb,B.1,B.2.1,B.2.2.1,B.2.2.2.1,B.2.2.2.2.1,B.2.2.2.2.2.1,B.2.2.2.2.2.2.1,B.2.2.2.2.2.2.2.1,by have:=a3 (by omega);unfold Nk;dsimp only;omega⟩;rintro L i ⟨t,c,h⟩ ⟨J,O⟩ hi G;dsimp only at J O G ⊢;obtain⟨H,I,e,k4,k5,k6,k7⟩:=O;unfold w5;dsimp only;rw[hn,dec_lt];rcases AV i n with g|g
 .obtain⟨p,ep,cp⟩:=AAM J r.1 h.Now;obtain⟨x1,e1,_,_,_,c1⟩:=CF cp 12;obtain⟨x2,e2,_,_,_,c2⟩:=CF c1 2;obtain⟨x3,e3,_,_,_,c3⟩:=CF c2 4;rw[decide_eq_true g,BP,ep,AB,e1,AB,e2,AB,e3,AB,g9,AB,Bb,AT,AT];have j3:∀(q:AQ) (b:Bool),∃y,SD L t (i:Int) h x3 q b=some y/\tk y.1/\B7 y.2:=by
   intro q b;unfold SD da;obtain⟨l,el,hl⟩:=AJJ (l:=h.AG) (by omega) q;rw[Bb,AT,el,AB,AT,BX g (by omega)];split
   .exact G (_,_,_) ⟨c3,H,I,e,by dsimp only;omega,by dsimp only;omega,k6,k7⟩ g
   .exact G (_,_,_) ⟨c3,H,I,e,by dsimp only;omega,by dsimp only;omega,k6,k7⟩ g
  have j2:∀q:AQ,∃y,V4 r L t (i:Int) h x3 q=some y/\tk y.1/\B7 y.2:=by
   intro q;unfold V4;obtain⟨a,ea,_⟩:=AP9 h.AG (by omega) q.Id;have eb:=ND (l:=h.AG) (by omega) q.AX;obtain⟨d,ed⟩:=AQA (h:=h) (p:=q) (by omega) H e;simp only[ea,eb,ed,AB,Bb,AT]
   repeat' split
   all_goals exact j3 _ _
  split<;>exact j2 _
 .rw[decide_eq_false (by omega),BS,AT];exact post _ J ⟨H,I,e,by dsimp only;omega,by dsimp only;omega,k6,k7⟩
theorem AUD{γ:Type}{P:γ->Prop}{c:Prop} [Decidable c] {x y:AA γ} (a:∃r,x=some r/\P r) (e:∃r,y=some r/\P r):∃r,(if c then x else y)=some r/\P r:=by
 split
 .exact a
 .exact e
theorem AUm{c:AY}(e:B7 c){r:Aa}(j:r.AW.length<=1048576)(now:Int):∃x,AET c r now=some x/\B7 x.2:=by
 have g:∀x:AY×AQ,B7 x.1->∃y,WC x=some y/\B7 y.2:=by
  rintro⟨c,p⟩ h;unfold WC Hr;dsimp only at h ⊢;obtain⟨a,ea,ca,_⟩:=Hv h (l:=[-1,0,2,5,7,1000000,1000001,9223372036854775807,-9223372036854775808]) (by simp);obtain⟨b,eb,_,_,_,cb⟩:=CF ca 24;obtain⟨d,ed,cd,_⟩:=Hv cb (l:=[0,999,1000,-1]) (by simp);rw[ea,AB,eb,AB];simp only[Bb,ed,AB,AT];refine AUD ⟨_,rfl,cd⟩ ?_
  iterate 9 refine AUD ⟨_,rfl,cb⟩ ?_
  exact⟨_,rfl,cb⟩
 unfold AET;rw[Hn (by omega),AB];obtain⟨x,ex,cx⟩:=AAM e r now;cases Dd r with
 |true=>rw[BP,ex,AB,AT];exact g _ cx|false=>rw[BS,AT];exact g _ e
theorem AAP{c:AY}(E:B7 c):∃x,xI c=some x/\B7 x.2:=by
 unfold xI;obtain⟨H,j,_,_,_,a⟩:=CF E 6;obtain⟨I,q,_,_,_,e⟩:=CF a 6;obtain⟨G,y,_,_,_,g⟩:=CF e 8;obtain⟨J,B,_,_,_,h⟩:=CF g (w64 (G.1+1));rw[j,AB,q,AB,y,AB,B,AB];exact⟨_,rfl,h⟩
theorem ARz{c:AY}(y:B7 c):∃x,AEU c=some x/\B7 x.2:=by
 unfold AEU Ns;obtain⟨B,h,a⟩:=AAP y;obtain⟨E,j,e,_⟩:=Hv a (l:=[-1,0,60,61,9223372036854775807,-9223372036854775808]) (by simp);obtain⟨G,q,_,_,_,g⟩:=CF e 16;rw[h,AB,j,AB,q,AB];simp only[Bb,AT]
 repeat' split
 all_goals exact⟨_,rfl,g⟩
theorem AAN{c:AY}(J:B7 c):∃x,xJ c=some x/\B7 x.2:=by
 unfold xJ Pd;obtain⟨L,y,_,_,_,a⟩:=CF J 4;obtain⟨O,B,_,_,_,e⟩:=CF a 20;obtain⟨Q,E,_,_,_,g⟩:=CF e 12;obtain⟨S,G,_,_,_,h⟩:=CF g 6;obtain⟨X,H,j,_⟩:=Hv h (l:=[-1,0,5,7,1000,1000001,9223372036854775807,-9223372036854775808]) (by simp);obtain⟨Y,I,_,_,_,q⟩:=CF j 30;rw[y,AB,B,AB,E,AB,G,AB,H,AB,I,AB];simp only[Bb,AT]
 repeat' split
 all_goals exact⟨_,rfl,q⟩
theorem nM{l:List Ae}(a:l.length<=1000)(e:Ae):∃x,AEV l e=some x/\x.1.length<=l.length+1:=by
 have hlim:lim=268435456:=rfl;have c:(put ltE e l).length=l.length+1:=Ey ..;unfold AEV dx;rw[VB (by omega),AB,RF _ (by omega),AB,BN,RF _ (by omega),AB];simp only[AT,BN,Ou (show l.length<=lim by omega),AB,Bb]
 repeat' split
 all_goals first|exact⟨_,rfl,by omega⟩|exact⟨_,rfl,by dsimp only;omega⟩
theorem AAO{c:AY}(hc:B7 c):∃x,wH c=some x/\x.1.length<=20/\B7 x.2:=by
 have G:∀(n:Nat) (c:AY),n<=20->B7 c->∃y,Vz ((n:Int),c)=some y/\y.1.length<=20/\B7 y.2:=by
  intro n c hn h;unfold Vz;dsimp only;refine JB (n:=n) (fun i (v:List Ae×AY)=>(v.1,(i:Int),v.2)) (fun i v=>v.1.length<=i/\B7 v.2) _ (by omega) ?_ (v:=([],c)) ⟨Ab _,h⟩;rintro L i ⟨l,c⟩ ⟨Y,a⟩ hi g;dsimp only at Y a g ⊢;unfold wN dV wJ;dsimp only;rcases AV i n with h|h
  .obtain⟨x,ex,cx⟩:=AAN a;rw[Bw h,BP,ex,AB,BJ,BX h (by omega),AT,AT];split
   .obtain⟨q,eq,e⟩:=nM (l:=l) (by omega) (Ae.mk x.1.Level x.1.As (w64 (100+(i:Int))) x.1.A5);rw[eq,AB];exact g (_,_) ⟨Ar e (by omega),cx⟩ h
   .obtain⟨q,eq,e⟩:=nM (l:=l) (by omega) x.1;rw[eq,AB];exact g (_,_) ⟨Ar e (by omega),cx⟩ h
  .obtain rfl:i=n:=by omega
   rw[Cc,BS,AT];exact⟨_,rfl,by dsimp only;omega,a⟩
 unfold wH;obtain⟨r1,Q,I,b1,B,J⟩:=CF hc 9;obtain⟨r2,S,j⟩:=Mz J 12;obtain⟨r3,X,a3,b3,E,O⟩:=CF j 4;have B:=B (by omega);have E:=E (by omega);obtain⟨n1,Z⟩:=AZ I;obtain⟨H,h3⟩:=AZ a3;rw[Q,AB,S,AB,Bb];split
 .rw[X,AB,AT,A4 (by omega) (by omega),h3,show (10:Int)+(H:Int)=((10+H:Nat):Int) from by omega];exact G _ _ (by omega) O
 .rw[AT,Z];exact G _ _ (by omega) j
theorem ARy{c:AY}(H:B7 c):∃x,AEG c=some x/\x.1.length<=1000/\B7 x.2:=by
 have hlim:lim=268435456:=rfl;unfold AEG SB;obtain⟨e,q,Q,h⟩:=AAO H;obtain⟨g,B,_,_,_,a⟩:=CF h 10;obtain⟨X,E,j⟩:=AAN a;rw[q,AB,B,AB];cases O:(g.1==0) with
 |true=>
  rw[BP,E,AB,Bt (by rw[KD];omega),AT];exact⟨_,rfl,by dsimp only;rw[AN,AI,AP];omega,j⟩
 |false=>
  rw[BS];cases G:(g.1==1) with
  |true=>
   rw[BP,BJ];split
   .rename_i S;obtain⟨x,I⟩:=FG (l:=e.1) (i:=0) (by omega) (by omega);obtain⟨y,J⟩:=FG (l:=e.1) (i:=1) (by omega) (by omega);obtain⟨z,L⟩:=FG (l:=List.set e.1 (Int.toNat 0) y) (i:=1) (by omega) (by rw[Am];omega);simp only[I,J,L,AB,AT];exact⟨_,rfl,by simp only[Am];omega,a⟩
   .rw[AT];exact⟨_,rfl,by dsimp only;omega,a⟩
  |false=>rw[BS,AT];exact⟨_,rfl,by dsimp only;omega,a⟩
theorem AQB{c:AY}(H:B7 c):∃x,wP c=some x/\B7 x.2:=by
 unfold wP V1;obtain⟨I,q,_,_,_,e⟩:=CF H 24;obtain⟨J,y,_,_,_,g⟩:=CF e 12;obtain⟨L,B,_,_,_,a⟩:=CF g 20;obtain⟨O,E,h,_⟩:=Hv a (l:=[0,-1,-9,1000008,1000009,9223372036854775807,-9223372036854775808]) (by simp);obtain⟨Q,G,j,_⟩:=Hv a (l:=[0,999,1000,-1]) (by simp);rw[q,AB,y,AB,B,AB];simp only[Bb,AT,E,G,AB]
 repeat' split
 all_goals first|exact⟨_,rfl,h⟩|exact⟨_,rfl,j⟩|exact⟨_,rfl,a⟩
theorem AR1{c:AY}(E:B7 c):∃x,AEH c=some x/\x.1.length<=8/\B7 x.2:=by
 have hlim:lim=268435456:=rfl;unfold AEH;obtain⟨H,y,j,_,e,q⟩:=CF E 8;have e:=e (by omega);obtain⟨n,G⟩:=AZ j;rw[y,AB];refine JB (n:=n) (fun i (v:List BB×AY)=>(v.1,(i:Int),v.2)) (fun i v=>v.1.length<=i/\B7 v.2) _ (by omega) ?_ (v:=([],H.2)) ⟨Ab _,q⟩;rintro L i ⟨l,c⟩ ⟨B,a⟩ hi g;dsimp only at B a g ⊢;unfold wT wS;dsimp only;rw[G];rcases AV i n with h|h
 .obtain⟨x,ex,cx⟩:=AQB a;rw[Bw h,BP,ex,AB,Bt (by rw[KD];omega),BX h (by omega)];exact g (_,_) ⟨by dsimp only;rw[AN,AI,AP];omega,cx⟩ h
 .obtain rfl:i=n:=by omega
  rw[Cc,BS,AT];exact⟨_,rfl,by dsimp only;omega,a⟩
theorem AJP{w:Aj}(a:w.Ag.length=9)(p:BB):(NK w p).1.Ag.length=9:=by
 unfold NK;split
 .unfold VJ;dsimp only;rw[Am];exact a
 .exact a
theorem AQK{w:Aj}(a:w.Ag.flatten.length<=10)(p:BB):(NK w p).1.Ag.flatten.length<=10:=by
 unfold NK;split
 .rename_i h;exact(DT.1 h.2.2).few
 .exact a
theorem AAQ{c:AY}(I:B7 c):∃x,wV c=some x/\Cv x.1/\(x.1.Ag.length=9/\x.1.Ag.flatten.length<=10)/\B7 x.2:=by
 have hlim:lim=268435456:=rfl;have B:∀(l:List BB) (c:AY),l.length<=100->B7 c->∃y,V2 ⟨List.replicate 9 []⟩ (l,c)=some y/\Cv y.1/\(y.1.Ag.length=9/\y.1.Ag.flatten.length<=10)/\B7 y.2:=by
  intro l c Q h;unfold V2;dsimp only;refine JB (n:=l.length) (fun i (v:Aj)=>((i:Int),v)) (fun _ v=>Cv v/\v.Ag.length=9/\v.Ag.flatten.length<=10) _ (by omega) ?_ (v:=⟨List.replicate 9 []⟩) ⟨RQ,by simp,by simp⟩;rintro L i w ⟨e,g⟩ hi j;unfold wg wW;dsimp only;rcases AV i l.length with a|a
  .rw[Bw a,BP,A9 a,AB,AB,Lh e,AB,BX a (by omega)];exact j _ ⟨Xa e _,AJP g.1 _,AQK g.2 _⟩ a
  .obtain rfl:i=l.length:=by omega
   rw[Cc,BS,AT];exact⟨_,rfl,e,g,h⟩
 unfold wV;obtain⟨J,G,O,E⟩:=AR1 I;obtain⟨S,H,q⟩:=Mz E 10;rw[Q0,AB,G,AB,H,AB,Bb];split
 .refine JB (n:=10) (fun i (v:List BB)=>(v,(i:Int))) (fun i v=>v.length<=8+i) _ (by omega) ?_ (v:=J.1) (by omega);intro L i l e hi j;unfold wa;dsimp only;rw[BJ];rcases AV i 10 with h|h
  .rw[if_pos (by omega),Bt (by rw[KD];omega),BX h (by omega)];exact j _ (by rw[AN,AI,AP];omega) h
  .rw[if_neg (by omega),AT];exact B _ _ (by omega) q
 .rw[AT];exact B _ _ (by omega) q
theorem AR0{c:AY}(Z:B7 c):∃x,AEI c=some x/\Cv x.1/\B7 x.2:=by
 have hlim:lim=268435456:=rfl;unfold AEI SC;obtain⟨e,O,j,⟨h9,X⟩,J⟩:=AAQ Z;obtain⟨E,Q,_,_,_,h⟩:=CF J 10;rw[O,AB,Q,AB];cases h0:(E.1==0) with
 |true=>
  obtain⟨I,y,a3,_,g,q⟩:=CF h 9;have g:=g (by omega);obtain⟨k,hk⟩:=AZ a3;have a:k<e.1.Ag.length:=by omega
  obtain⟨G,S,L⟩:=AQB q;have hsl:=KB a;have h2:=j.2;have hh:Y.MX k 0 [U.sl (C.st 5) (e.1.Ag[k]++[G.1])].length [(k,0)]:=⟨rfl,⟨Ab _,by simp⟩,trivial⟩;have B:=gG a (e.1.Ag[k]++[G.1]);rw[BP,y,AB,hk,A9 a,AB,AB,S,AB,Bt (by rw[KD];omega),AB,AB,Int.toNat_natCast,Bt hh,AT];refine⟨_,rfl,⟨by dsimp only;rw[Am];omega,?_⟩,L⟩;rw[AN,AI,AP]at B;show (e.1.Ag.set k (e.1.Ag[k]++[G.1])).flatten.length<=_;omega
 |false=>
  rw[BS];cases h1:(E.1==1) with
  |true=>
   obtain⟨I,y,a3,_,g,q⟩:=CF h 10;have g:=g (by omega);rw[BP,y,AB,Bt ⟨by omega,by omega⟩,AT];refine⟨_,rfl,⟨?_,?_⟩,q⟩
   .dsimp only;rw[BH,BD];omega
   .dsimp only;have H:=congrArg (fun s=>s.flatten.length) (List.take_append_drop (I.1.toNat-0) e.1.Ag);simp only[Dj,AN]at H;have:=j.2;rw[List.drop_zero];omega
  |false=>
   rw[BS];cases H:(E.1==2) with
   |true=>
    rw[BP,Bt (by omega),AT];refine⟨_,rfl,⟨?_,?_⟩,h⟩
    .dsimp only;rw[AN,AI,AP];omega
    .dsimp only;rw[Dj];simpa using j.2
   |false=>rw[BS,AT];exact⟨_,rfl,j,h⟩
theorem AP8{c:AY}(H:B7 c):∃x,AEJ c=some x/\EU x.1/\B7 x.2:=by
 unfold AEJ dW;obtain⟨O,E,B⟩:=Mz H 4;rw[E,AB,Bb];split
 .obtain⟨I,h,a⟩:=ARz B;obtain⟨J,j,G,e⟩:=ARy a;obtain⟨L,q,y,g⟩:=AR0 e;rw[h,AB,j,AB,q,AB];exact⟨_,rfl,⟨by dsimp only;omega,y⟩,g⟩
 .unfold AJ3;obtain⟨I,h,a⟩:=AAP B;obtain⟨J,j,G,e⟩:=AAO a;obtain⟨L,q,y,_,g⟩:=AAQ e;rw[h,AB,j,AB,q,AB,AB,Bb,AT,AT];split<;>exact⟨_,rfl,⟨by dsimp only;omega,y⟩,g⟩
theorem AAG{c:AY}(X:B7 c):∃x,wu c=some x/\Bf x.1/\B7 x.2/\Nk x.1:=by
 have hlim:lim=268435456:=rfl;unfold wu GU;obtain⟨h,O,⟨b1,b2,b3,Y,b4,b5,b6,nk⟩,J⟩:=ATl X;obtain⟨r2,Q,L,Z⟩:=Hv J (l:=[-1,0,1,3,1000000,1000001,1000002,9223372036854775807,-9223372036854775808]) (by simp);obtain⟨G,S,_,_,_,e⟩:=CF L 40;obtain⟨a,g,j,f4,B,E⟩:=Y;rw[O,AB,Q,AB,S,AB];cases k0:(G.1==0) with
 |true=>
  rw[BP,AT];refine⟨_,rfl,⟨a,g,j,f4,B,E⟩,e,?_⟩;simp only[List.mem_cons,List.not_mem_nil,or_false]at Z;unfold Nk;dsimp only;omega
 |false=>
 rw[BS];cases k1:(G.1==1) with
 |true=>rw[BP,AT];exact⟨_,rfl,⟨a,g,j,f4,B,E⟩,e,nk⟩|false=>
 rw[BS];cases k2:(G.1==2) with
 |true=>
  rw[BP,Bt (by rw[KD];omega),AT];exact⟨_,rfl,⟨a,g,j,f4,by dsimp only;rw[AN,AI,AP];omega,E⟩,e,nk⟩
 |false=>
 rw[BS];cases k3:(G.1==3) with
 |true=>
  rw[BP,Bt (by rw[KD];omega),AT];exact⟨_,rfl,⟨a,g,j,f4,B,by dsimp only;rw[AN,AI,AP];omega⟩,e,nk⟩
 |false=>
 rw[BS];cases k4:(G.1==4) with
 |true=>
  obtain⟨p,ep,cp⟩:=AUm e a h.1.Now;rw[BP,ep,AB,Bt (by rw[KD];omega),AT];exact⟨_,rfl,⟨a,by dsimp only;rw[AN,AI,AP];omega,j,f4,B,E⟩,cp,nk⟩
 |false=>
 rw[BS];cases k5:(G.1==5) with
 |true=>
  rw[BP,BJ];split
  .obtain⟨x,H⟩:=FG (l:=h.1.AG) (i:=0) (by omega) (by omega);simp only[H,AB,AT];exact⟨_,rfl,⟨a,by simp only[Am];exact g,j,f4,B,E⟩,e,nk⟩
  .rw[AT];exact⟨_,rfl,⟨a,g,j,f4,B,E⟩,e,nk⟩
 |false=>
 rw[BS];cases k6:(G.1==6) with
 |true=>
  rw[BP,A4 (by omega) (by omega),Bt ⟨by omega,by omega⟩,AT];refine⟨_,rfl,⟨a,g,?_,?_,B,E⟩,e,nk⟩
  .dsimp only;rw[BH,BD];omega
  .intro x H;exact f4 x (List.mem_of_mem_drop (List.mem_of_mem_take H))
 |false=>
 rw[BS];cases k7:(G.1==7) with
 |true=>
  obtain⟨q,eq,hq,cq⟩:=AP8 e;obtain⟨x,H⟩:=FG (l:=h.1.AH) (i:=0) (by omega) (by omega);rw[BP,eq,AB,H,AB,AB,AT];refine⟨_,rfl,⟨a,g,by simp only[Am];exact j,?_,B,E⟩,cq,nk⟩;intro y I;rcases ES I with I|rfl
  .exact f4 y I
  .exact hq
 |false=>
 rw[BS];cases k8:(G.1==8) with
 |true=>rw[BP,AT];exact⟨_,rfl,⟨a,g,j,f4,B,E⟩,e,nk⟩|false=>
 rw[BS];cases k9:(G.1==9) with
 |true=>
  rw[BP,BJ];split
  .obtain⟨x,H⟩:=FG (l:=h.1.AG) (i:=0) (by omega) (by omega);obtain⟨y,I⟩:=FG (l:=h.1.AG) (i:=1) (by omega) (by omega);simp only[H,I,AB,AT];exact⟨_,rfl,⟨a,by simp only[Am];exact g,j,f4,B,E⟩,e,nk⟩
  .rw[AT];exact⟨_,rfl,⟨a,g,j,f4,B,E⟩,e,nk⟩
 |false=>rw[BS,AT];exact⟨_,rfl,⟨a,g,j,f4,B,E⟩,e,nk⟩
theorem AC9{c:AY}(h:B7 c):∃x,wu c=some x/\Bf x.1/\B7 x.2:=by
 obtain⟨x,a,e,g,_⟩:=AAG h;exact⟨x,a,e,g⟩
theorem ACw(l:List Ae):HQ eqE l l=true:=(HI aU).2 rfl
theorem ACx(l:List BB):HQ eqP l l=true:=(HI aV).2 rfl
theorem nr(x:Int):(x==x)=true:=beq_self_eq_true x
theorem AC0{r:Aa}(a:r.AW.length<=1048576):AEK r r=some true:=by
 unfold AEK JQ;simp only[MO (show r.AW.length<2 ^ 62 by omega),QD.2,AB,nr,BP,AT]
theorem AC1{w:Aj}(a:Cv w)(c:HK w=true):AEd w w=some true:=by
 unfold AEd WG;have e:=Js a;simp only[I1 a,c,Sz a,UM (show (Ep w).length<2 ^ 62 by omega),ACx,AB,BP,AT]
theorem ACy{c:Ad}(e:EU c)(a:Nf c=true):AEe c c=some true:=by
 have g:HK c.Bl=true:=by
  unfold Nf at a;simp only[AF]at a;exact a.2.2
 have h:=e.1;unfold AEe Pe;simp only[XJ e,a,nr,CA,XO (show c.Row.length<2 ^ 62 by omega),ACw,AC1 e.2 g,AB,BP,AT]
theorem ACz{h:AE}(a:Bf h)(j:Dr h=true):AEf h h=some true:=by
 have q:=a.Df;have E:=a.B4;have G:=a.De;have H:=a.todo;have I:=a.E8;unfold AEf Kb;simp only[Hm a,j,AC0 q,MO (show h.Az.length<2 ^ 62 by omega),MO (show h.Ay.length<2 ^ 62 by omega),QD.2,ne_self,AB,Bp,BS,AT];have y:WH h h ()=some true:=by
  unfold WH;have key:=AUB (n:=h.AH.length) (F:=WI h h) (by omega) ?_ ?_
  .rw[ne_self,BS]at key;exact key
  .intro L i hi;have e:Nf h.AH[i]=true:=by
    have c:=JY.1 (J5 j).2.2.2.2.2.2.2.2.2 i hi;unfold VU at c;rw[CC hi]at c;unfold Jd at c;simp only[AF]at c;exact c.2.1.1
   unfold WI;rw[Bw hi,BP,A9 hi,AB,AB,ACy (a.Dk _ (List.getElem_mem hi)) e,AB,BN,BP]
  .intro L;unfold WI xP;rw[Cc,BS,AT]
 rw[<-y];refine(DE (n:=h.AG.length) (fun i (_:Unit)=>(i:Int)) (fun _ _=>True) (fun _ _=>WH h h ()) (by omega) ?_ (v:=()) trivial);intro L i _ _ hi B;unfold xQ;rcases AV i h.AG.length with g|g
 .rw[Bw g,BP,A9 g,AB,AB,BX g (by omega)];simp only[nr,CA,Bp,BS];exact B () trivial g
 .obtain rfl:i=h.AG.length:=by omega
  rw[Cc,BS,AT]
theorem ARv{c:AY}(hc:B7 c){h:AE}(hh:Bf h):∃x,dg c h=some x/\B7 x.2:=by
 unfold dg;obtain⟨x1,Q,_,_,_,I⟩:=CF hc 12;have j4:∀x:AY×B9,dh x=some (x.2,x.1):=fun _=>rfl
 have j5:∀(v x:Int) (y:Int×AY) (b:Bool),B7 y.2->∃z,V7 h v x y b=some z/\B7 z.2:=by
  intro v x y b a;unfold V7;obtain⟨H,e,_,_,_,g⟩:=CF a x;obtain⟨z2,j,_,_,_,B⟩:=CF g 4;obtain⟨z3,q,_,_,_,E⟩:=CF a (if 1>h.AR.Cr then 1 else h.AR.Cr);simp only[e,j,q,MF,AB,Bb]
  repeat' split
  all_goals first|exact⟨_,rfl,B⟩|exact⟨_,rfl,a⟩|exact⟨_,rfl,E⟩
 have j3:∀(v x:Int) (y:Int×AY) (b:Bool),B7 y.2->∃z,Pc h v x y b=some z/\B7 z.2:=by
  intro v x y b a;unfold Pc;obtain⟨H,e,_,_,_,g⟩:=CF a 14;obtain⟨z2,j,_,_,_,B⟩:=CF g x;obtain⟨z3,q,_,_,_,E⟩:=CF B (if 1>h.AR.A5 then 1 else h.AR.A5);obtain⟨z4,f4,_,_,_,Y⟩:=CF E (if 1>h.AR.CK then 1 else h.AR.CK);obtain⟨z5,S,J⟩:=Mz Y 3;obtain⟨z6,X,_,_,_,Z⟩:=CF J x;simp only[e,j,q,f4,S,X,MF,AB,Bb,AT,CQ,Ic,Ie,Ig,Ih,H5,Ii,Ij,Ku,j4]
  repeat' split
  all_goals first|exact⟨_,rfl,Z⟩|exact⟨_,rfl,J⟩|exact⟨_,rfl,a⟩|exact j5 _ _ _ _ a
 have G:∀x:Int×AY,B7 x.2->∃z,V6 h x=some z/\B7 z.2:=by
  rintro⟨v,c⟩ a;unfold V6;dsimp only at a ⊢;obtain⟨H,e,_,_,_,g⟩:=CF a 12;simp only[e,MF,AB,Bb,AT]
  repeat' split
  all_goals exact j3 _ _ _ _ g
 have hp:=hh.B4;rw[Q,AB,BJ];split
 .rename_i h0;obtain⟨o,eo,co⟩:=Mz I 3;rw[eo,AB,AT];unfold V5;dsimp only;rw[Bb];split
  .obtain⟨H,e,L,_,O,g⟩:=CF co (h.AG.length:Int);obtain⟨k,hk⟩:=AZ L;have:=O (by omega);rw[e,AB,hk,A9 (by omega),AB,AT];exact G _ g
  .rw[AT];exact G _ co
 .rw[AT];unfold V5;dsimp only;rw[BS,AT];exact G _ I
theorem AAE{c:AY}(e:B7 c){h:AE}(g:Bf h):∃x,w8 c h=some x/\B7 x.2:=by
 unfold w8;obtain⟨q,eq,cq⟩:=ARv e g;obtain⟨a,ea,ca,_⟩:=Hv cq (l:=([-1,0,1,4,7,61,1000,9999,10000,9223372036854775807,-9223372036854775808]:List Int)) (by simp);obtain⟨b,eb,_,_,_,cb⟩:=CF ca 20;have j:∀x:AY×B9,Lu x=some (x.2,x.1):=fun _=>rfl
 simp only[eq,ea,eb,AB,Bb,AT,j]
 grind
theorem AUo{c:AY}(j:B7 c){h:AE}(y:Bf h):∃x,AEg c h=some x/\B7 x.2:=by
 have G:=y.B4;unfold AEg;have B:([4,4,5]:List Int)≠[]:=by simp
 refine JB (n:=h.AG.length) (fun i (v:AY)=>((i:Int),v)) (fun _ v=>B7 v) (fun x:B9×AY=>B7 x.2) (by omega) ?_ j;intro L i v e hi H;unfold xS;dsimp only;rcases AV i h.AG.length with a|q
 .rw[Bw a,BP,A9 a,AB,Bb];have g:∀x:Bool×AY,B7 x.2->∃r,WJ h L i x=some r/\B7 r.2:=by
   rintro⟨b,w⟩ E;unfold WJ;dsimp only;obtain⟨z,ez,cz,_⟩:=Hv E B
   grind[A9,AB,BX,Bb]
  obtain⟨o,eo,co⟩:=Mz e 3;rw[eo,AB];simp only[AT];split
  .exact g _ co
  .exact g _ e
 .obtain rfl:i=h.AG.length:=by omega
  rw[Cc,BS,AT];unfold xR;obtain⟨o,eo,co⟩:=Mz e 4;obtain⟨z,ez,_,_,_,cz⟩:=CF co (if 1>(h.Ay.length:Int) then 1 else (h.Ay.length:Int));rw[eo,AB,Bb,MF,AB,ez,AB];split
  .exact⟨_,rfl,co⟩
  .exact⟨_,rfl,cz⟩
theorem AGk.fit{r:Aa}(c:Dd r=true){h:AE}(e:AGk r 0 h):Bf h:=by
 obtain⟨g,j,a3,a4,q,y,a,B,E⟩:=e;have G:=B2 c;exact⟨a3,by omega,by omega,a,by omega,by omega⟩
end Lv.P
