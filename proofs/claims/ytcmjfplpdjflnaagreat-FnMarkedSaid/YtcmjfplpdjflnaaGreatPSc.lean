/- Plain laws about what the program computes. -/
import Derived.Test.YtcmjfplpdjflnaaGreatPKc
set_option linter.unusedVariables false
set_option linter.unusedSimpArgs false
set_option linter.unusedSectionVars false
open Bool renaming and_true->CS,not_true->Br
open Int renaming eq_ofNat_of_zero_le->Ac
open List renaming flatten_append->ED,getElem_mem->As,length_append->AK,length_cons->AH,length_drop->BK,length_filterMap_le->Bv,length_nil->AN,length_set->A8,length_take->BI,mem_append->CO,mem_cons->Ag,mem_iff_getElem->C7,mem_or_eq_of_mem_set->E3,not_mem_nil->Hi
open Nat renaming le_refl->Ad,le_trans->Aw,lt_or_ge->AV
namespace Lv.P
open Lv Go
theorem AMu(a:Int):0<=dH a 255/\dH a 255<=255:=by
 unfold dH;have e:(BitVec.ofInt IntKind.i64.bits 255).toNat=255:=rfl
 grind[BitVec.toNat_and,BitVec.ofInt,Nat.and_le_right,UJ]
theorem ARW(s:List UInt8):ANS s=some (decide ((s.length:Int)>1048576)):=rfl
def CL(c:AZ):Prop:=0<=c.i_/\c.i_<=c.b_.length/\c.b_.length<=1048576
theorem AaI{s:List UInt8}(a:s.length<=1048576):∃c,AHK s=some c/\CL c:=by
 unfold AHK;refine JR (n:=s.length) (fun i (v:Int)=>(v,(i:Int))) (fun _ _=>True) CL (by omega) ?_ trivial;intro L i v _ hi e;unfold AAJ gM AAI;dsimp only;simp only[AR,dec_lt];rcases AV i s.length with h|h
 .rw[decide_eq_true h,BJ,BL,BH h,AB,Bg h (by omega)];split
  .exact e _ trivial h
  .exact⟨_,rfl,by simp,by simp,a⟩
 .rw[decide_eq_false (by omega),BT,BT];exact⟨_,rfl,by simp,by simp,a⟩
theorem AC6{c:AZ}(j:CL c):∃r,aV c=some r/\0<=r.1/\r.1<=255/\CL r.2:=by
 obtain⟨a,g,e⟩:=j;unfold aV gO;rw[BL];obtain⟨i,hi⟩:=Ac a;split
 .rename_i h;rw[hi,BH (by omega),AB,AR];have:=AMu (w64 (dH (UO (Du (w64 (w64 (c.h_*6364136223846793005)+1442695040888963407)) 33) (Du (w64 (w64 (c.h_*6364136223846793005)+1442695040888963407)) 45)) 255+w64 (↑(UInt8.toNat c.b_[i]):Int)));refine⟨_,rfl,this.1,this.2,?_⟩;rw[A6 (n:=(i:Int)+1) (by omega) (by omega)];exact⟨by dsimp only;omega,by dsimp only;omega,e⟩
 .rw[AR];have:=AMu (UO (Du (w64 (w64 (c.h_*6364136223846793005)+1442695040888963407)) 33) (Du (w64 (w64 (c.h_*6364136223846793005)+1442695040888963407)) 45));exact⟨_,rfl,this.1,this.2,a,g,e⟩
theorem mo{a n:Int}(c:0<=a)(e:0<n):0<=Int.tmod a n/\Int.tmod a n<n:=by
 rw[Int.tmod_eq_emod_of_nonneg c];exact⟨Int.emod_nonneg _ (by omega),Int.emod_lt_of_pos _ e⟩
theorem CU{c:AZ}(q:CL c)(n:Int):∃r,CE c n=some r/\0<=r.1/\(n<=0->r.1=0)/\(0<n->r.1<n)/\CL r.2:=by
 unfold CE;rw[BL];by_cases y:n<=0
 .rw[AX y];exact⟨_,rfl,by simp,by simp,by omega,q⟩
 rw[AU y,BL];split
 .obtain⟨r,e,S,h2,h3⟩:=AC6 q;rw[e,AB,B6 (by omega)];have:=mo S (show 0<n by omega)
  grind
 .obtain⟨g,J,X,Z,E⟩:=AC6 q;obtain⟨h,L,Y,b2,G⟩:=AC6 E;obtain⟨j,O,a3,b3,H⟩:=AC6 G;obtain⟨B,Q,a4,b4,I⟩:=AC6 H;rw[J,AB,L,AB,O,AB,Q,AB,B6 (by omega)];rw[A6 (n:=g.1*16777216) (by omega) (by omega),A6 (n:=h.1*65536) (by omega) (by omega),A6 (n:=j.1*256) (by omega) (by omega)];rw[A6 (n:=g.1*16777216+h.1*65536) (by omega) (by omega),A6 (n:=g.1*16777216+h.1*65536+j.1*256) (by omega) (by omega),A6 (n:=g.1*16777216+h.1*65536+j.1*256+B.1) (by omega) (by omega)];have:=mo (a:=g.1*16777216+h.1*65536+j.1*256+B.1) (by omega) (show 0<n by omega);exact⟨_,rfl,this.1,by omega,fun _=>this.2,I⟩
theorem MV{c:AZ}(a:CL c)(n:Int):∃r,KP c n=some r/\CL r.2:=by
 obtain⟨r,e,_,_,_,h⟩:=CU a n;unfold KP;rw[e,AB];exact⟨_,rfl,h⟩
theorem Ht{c:AZ}(a:CL c){l:List Int}(g:l≠[]):∃r,Mv c l=some r/\CL r.2/\r.1∈l:=by
 unfold Mv;have B:0<l.length:=by cases l with|nil=>exact absurd rfl g|cons=>simp
 obtain⟨r,e,h,j,q,y⟩:=CU a (l.length:Int)
 grind[Int.eq_ofNat_of_zero_le,AB,BH,List.getElem_mem]
theorem ATj{c:AZ}(e:CL c):∃r,AAK c=some r/\r.1.AY.length<=3/\D7 r.1=true/\CL r.2:=by
 unfold AAK;obtain⟨r1,j,X,Y,a,g⟩:=CU e 5;obtain⟨r2,e2,a2,b2,B,Z⟩:=CU g 9;obtain⟨r3,e3,a3,b3,E,c3⟩:=CU Z 6;obtain⟨r4,e4,a4,b4,G,c4⟩:=CU c3 5;obtain⟨r5,e5,a5,b5,H,c5⟩:=CU c4 4;obtain⟨r6,e6,a6,b6,I,c6⟩:=CU c5 4;obtain⟨r7,e7,a7,b7,J,c7⟩:=CU c6 4;obtain⟨r8,e8,a8,b8,O,c8⟩:=CU c7 3;obtain⟨q,e9,a9,b9,d9,c9⟩:=CU c8 3;simp only[j,e2,e3,e4,e5,e6,e7,e8,e9,AB];have a:=a (by omega);have B:=B (by omega);have E:=E (by omega);have G:=G (by omega);have H:=H (by omega);have I:=I (by omega);have J:=J (by omega);have O:=O (by omega);have h9:=d9 (by omega);obtain⟨n,hn⟩:=Ac (show 0<=1+q.1 by omega);refine JR (n:=n) (fun i (v:AZ×Ab)=>((i:Int),v.1,v.2)) (fun i v=>CL v.1/\∃ss:List Int,v.2=⟨ss,w64 (1+r1.1),w64 (2+r2.1),w64 (1+r3.1),w64 (1+r4.1),w64 (1+r5.1),r6.1,w64 (1+r7.1),w64 (1+r8.1)⟩/\ss.length=i/\∀x∈ss,2<=x/\x<=13) _ (by omega) ?_ (v:=(q.2,_)) ⟨c9,[],rfl,rfl,by simp⟩;rintro L i ⟨c,r⟩ ⟨e,ss,Q,hs,hx⟩ hi S;unfold AAM AAL;dsimp only at e Q S ⊢;subst Q;rw[A6 (n:=1+q.1) (by omega) (by omega),hn,dec_lt];rcases AV i n with h|h
 .obtain⟨y,j,X,Y,a,g⟩:=CU e 12;have a:=a (by omega);rw[decide_eq_true h,BJ,j,AB,B6 (by simp only[AH,AN];unfold lim;omega),Bg h (by omega)];refine S (_,_) ⟨g,_,rfl,by simp[hs],?_⟩ h
  grind[List.mem_singleton,A6]
 .rw[decide_eq_false (by omega),BT,AR]
  grind[D7,CP,List.all_eq_true,A6]
def Nk(h:AE):Prop:=-9223372036854775808<=h.Now/\h.Now<9223372036854775808
def AJs(r:Ab)(n:Nat)(h:AE):Prop:=h.AI.length<=h.AS.AY.length/\h.AI.length<=r.AY.length/\h.AS.AY.length<=1048576/\h.AG.length<=n/\h.BA.length<=n/\h.A4.length<=3/\(∀c∈h.AI,EE c)/\1<=h.AI.length/\Nk h
theorem AMc{r:Ab}(g:r.AY.length<=3)(a:D7 r=true):∃x,oM r=some x/\AJs r 0 x.1:=by
 have c:=Qy (r:=r) (by omega);have e:=CK a;refine⟨_,lK (by omega),?_⟩;unfold AJs;refine⟨?_,?_,c.Dj,?_,?_,?_,c.Dq,?_,?_⟩<;>(unfold I6;rw[AX a])<;>simp[Nk]<;>omega
theorem ATv(l:List AQ)(c:l.length<2 ^ 62)(n:Int):∃i,WZ l n=some i/\(i<0\/∃k:Nat,i=k/\k<l.length):=by
 unfold WZ;refine JR (n:=l.length) (fun i (_:Unit)=>(i:Int)) (fun _ _=>True) _ (by omega) ?_ (v:=()) trivial;intro L i _ _ hi a;unfold gT gQ;rw[dec_lt];rcases AV i l.length with h|h
 .rw[decide_eq_true h,BJ,BH h,AB,Bn,Bg h (by omega)];split
  .grind
  .exact a () trivial h
 grind[decide_eq_false,BT,AR]
theorem ADB{c:AZ}(hc:CL c)(r:Ab)(now:Int):∃x,AAN c r now=some x/\CL x.2:=by
 obtain⟨r1,S,a1,b1,d1,I⟩:=CU hc 12;obtain⟨r2,X,a2,b2,d2,J⟩:=CU I (r.AY.length:Int);obtain⟨r3,Y,a3,b3,d3,L⟩:=CU J r.BC;obtain⟨r4,Z,a4,b4,d4,O⟩:=CU L r.CX;obtain⟨r5,e5,a5,b5,d5,Q⟩:=CU O 40;obtain⟨r6,e6,a6,b6,d6,E⟩:=CU Q r.Cb;have H:∀x:AZ×AQ,CL x.1->∃y,gP x=some y/\CL y.2:=by
  rintro⟨c,p⟩ h;exact⟨_,rfl,h⟩
 have B:∀x:AZ×AQ,CL x.1->∃y,SS r x=some y/\CL y.2:=by
  rintro⟨c,p⟩ h;unfold SS;obtain⟨o,eo,a⟩:=MV h 4;dsimp only;rw[eo,AB,Bn,AR];split
  .obtain⟨q,eq,_,_,_,e⟩:=CU a (r.AY.length:Int);rw[eq,AB,AR];exact H _ e
  .exact H _ a
 have G:∀x:AZ×AQ,CL x.1->∃y,WY r now x=some y/\CL y.2:=by
  rintro⟨c,p⟩ h;unfold WY;obtain⟨o,eo,a⟩:=MV h 3;dsimp only;rw[eo,AB,Bn,AR];split
  .obtain⟨q,eq,_,_,_,e⟩:=CU a (w64 (now+r.B3));rw[eq,AB,AR];exact B _ e
  .exact B _ a
 unfold AAN;simp only[S,X,Y,Z,e5,e6,AB,Cm,JW,JX,JY,JZ,I3,Ja,Jb,Ee,K1,GN,Bn,AR];split
 .obtain⟨q,eq,_,_,_,e⟩:=CU E (w64 (now+1));obtain⟨o,eo,a⟩:=MV e 3;rw[eq,AB,eo,AB];split
  .obtain⟨q',g,_,_,_,j⟩:=CU a (w64 (w64 (now+r.Rest)+1));rw[g,AB];exact G _ j
  .exact G _ a
 .exact B _ E
theorem ATw{h:AE}{p:AQ}(c:h.AG.length<=1000)(e:h.AI.length<=h.AS.AY.length)(j:h.AS.AY.length<=1048576):∃b,AHL h p=some b:=by
 unfold AHL;simp only[List.nil_append,Cm,JW,JX,JY,JZ,I3,Ja,Jb,Ee,K1];have q:(h.AG).length=h.AG.length:=by simp
 rw[B6 (by unfold lim;omega),B6 (by simp only[AH,AN];unfold lim;omega),B6 (by unfold lim;omega),B6 (by simp only[AH,AN];unfold lim;omega),B6 (by unfold lim;omega),B6 (by simp only[AH,AN];unfold lim;omega)];obtain⟨r,h,_⟩:=JR (F:=gU h p) (n:=h.AI.length) (fun i (_:Unit)=>(i:Int)) (fun _ _=>True) (fun _=>True) (by omega) (by
  intro L i v _ hi a;unfold gU AAO;rw[dec_lt];rcases AV i h.AI.length with g|g
  .have ea:=Ot (l:=[]++h.AG++[p]) (by simp;omega) (i:Int);have eb:=Ou (l:=[]++h.AG++[p]) (by simp;omega) (i:Int);rw[decide_eq_true g,BJ,BH (show i<h.AS.AY.length by omega),AB,ea,AB,eb,AB,Bn,Bg g (by omega)];split
   .exact⟨_,rfl,trivial⟩
   .exact a () trivial g
  .rw[decide_eq_false (by omega),BT,AR];exact⟨_,rfl,trivial⟩) (v:=()) trivial
 exact⟨r,h⟩
theorem AMd{l:List AQ}(e:l.length<=1000)(p:AQ):∃r,UU l p=some r/\r.length<=l.length+1:=by
 unfold UU;obtain⟨i,ei,hi⟩:=ATv l (by omega) p.Id;rw[ei,AB,B6 (by unfold lim;omega),BL];split
 .grind[BH,AB]
 .refine JR (n:=l.length) (fun i (_:Unit)=>(i:Int)) (fun _ _=>True) _ (by omega) ?_ (v:=()) trivial;intro L i _ _ hi c;have a:∃r,SV l p (i:Int)=some r/\r.length<=l.length+1:=by
   grind[SV,Cm,JW,JX,JY,JZ,I3,Ja,Jb,Ee,K1,Int.toNat_natCast,List.length_take,B6,lim,List.length_cons,List.length_nil,List.length_append,List.length_drop]
  unfold Wa SU;rw[dec_lt];rcases AV i l.length with h|h
  .rw[decide_eq_true h,BJ,BH h,AB,AR,BL,Bg h (by omega),AR];split
   .exact c () trivial h
   .exact a
  .rw[decide_eq_false (by omega),BT,AR,BT,AR];exact a
theorem AYs{r:Ab}(q:r.AY.length<2 ^ 62){l:List AQ}(y:l.length<=400){k:Nat}(j:k<r.AY.length)(now x:Int):∃c,AHM r l k now x=some c/\EE c:=by
 unfold AHM;obtain⟨ps,ep,B⟩:∃ps,ADn l (k:Int)=some ps/\ps.length<=400:=⟨_,TV (by omega) _,by unfold F9;rw[Ho];have:=Bv (MO (k:Int)) l;omega⟩;rw[Q9,AB,ep,AB];obtain⟨c,g,a⟩:=JR (F:=gW r l (k:Int) now x ps) (n:=ps.length) (fun i (v:Aq)=>((i:Int),v)) (fun i v=>Cz v) (fun c=>EE c) (by omega) (by
  intro L i v e hi G;unfold gW AAP;dsimp only;rw[dec_lt];rcases AV i ps.length with h|h
  .have ey:=Lq e ps[i];have E:=YW e ps[i]
   grind[decide_eq_true,BJ,BH,AB,Bg]
  .have ea:=Ot (l:=l) (by omega) (k:Int);have eb:=Ou (l:=l) (by omega) (k:Int);have eq:=NN q (l:=l) (by omega) (k:Int) now;rw[decide_eq_false (by omega),BT,AR,ea,AB,eb,AB,BH j,AB,ML,AB,eq,AB];refine⟨_,rfl,?_,e⟩;dsimp only;unfold Dw;rw[Ho];have:=Bv (K4 r (k:Int) now) l;omega) (v:=⟨List.replicate 9 []⟩) Re
 exact⟨c,g,a⟩
theorem ATk{l:List Int}(a:l.length<=1048576)(n:Int):∃r,Rl l n=some r/\r.length<=l.length+1:=by
 grind[Rl,RW,B6,lim,AB,Bn,List.length_cons,List.length_nil]
def xw(h:AE):Prop:=h.AG.length<=400/\h.AI.length<=1000/\h.AS.AY.length<=1048576/\Bk h/\1<=h.AI.length/\h.BA.length<=2000/\h.A4.length<=1000/\Nk h
theorem AXh{c:AZ}(E:CL c):∃x,AHN c=some x/\xw x.1/\CL x.2:=by
 unfold AHN;obtain⟨r,er,hr,hrb,cr⟩:=ATj E;obtain⟨h,eh,B⟩:=AMc hr hrb;obtain⟨a,ea,a1,a2,a3,ca⟩:=CU cr 20;obtain⟨b,eb,b1,b2,b3,cb⟩:=CU ca 9;have hb:=b3 (by omega);rw[er,AB,eh,AB,ea,AB,eb,AB];obtain⟨n,hn⟩:=Ac b1;have post:∀x:AZ×AE,CL x.1->AJs r.1 100 x.2->∃y,gY r x=some y/\xw y.1/\CL y.2:=by
  rintro⟨c,h⟩ E B;unfold gY;dsimp only at E B ⊢;have hcn:=B.2.1;refine JR (n:=h.AI.length) (fun i (v:AZ×AE)=>((i:Int),v.1,v.2)) (fun i v=>CL v.1/\v.2.AI.length=h.AI.length/\v.2.AG.length<=100/\v.2.BA.length<=100+i/\v.2.AS.AY.length<=1048576/\v.2.A4.length<=3/\(∀c∈v.2.AI,EE c)/\Nk v.2) _ (by omega) ?_ (v:=(c,h)) ⟨E,rfl,B.2.2.2.1,by dsimp only;have:=B.2.2.2.2.1;omega,B.2.2.1,B.2.2.2.2.2.1,B.2.2.2.2.2.2.1,B.2.2.2.2.2.2.2.2⟩;rintro L i ⟨c,Q⟩ ⟨J,O,Z,g4,S,g6,X,Y⟩ hi G;dsimp only at J O Z g4 S g6 X Y G ⊢;unfold AAS ga AAQ;dsimp only;rw[O,dec_lt];rcases AV i h.AI.length with g|g
  .obtain⟨x,ex,_,_,_,cx⟩:=CU J 6;obtain⟨m,em,hm⟩:=AYs (r:=r.1) (by omega) (l:=Q.AG) (by omega) (k:=i) (by omega) Q.Now x.1;obtain⟨o,eo,co⟩:=MV cx 2;obtain⟨t,et,ht⟩:=ATk (l:=Q.BA) (by omega) (i:Int);rw[decide_eq_true g,BJ,ex,AB,em,AB,BH (by omega),AB,AB,eo,AB,Bn,et,AB,AR,AR,Bg g (by omega)];split
   .exact G (_,_) ⟨co,by simp[O],Z,by dsimp only;omega,S,g6,fun c E=>by
     rcases E3 E with E|rfl
     .exact X c E
     .exact hm,Y⟩ g
   .exact G (_,_) ⟨co,by simp[O],Z,by dsimp only;omega,S,g6,fun c E=>by
     rcases E3 E with E|rfl
     .exact X c E
     .exact hm,Y⟩ g
  .rw[decide_eq_false (by omega),BT,AR];refine JR (n:=Q.A4.length) (fun j (v:AZ×AE)=>((j:Int),v.1,v.2)) (fun j v=>CL v.1/\v.2.A4.length=Q.A4.length/\xw v.2) _ (by omega) ?_ (v:=(c,Q)) ⟨J,rfl,by dsimp only;omega,by dsimp only;omega,S,⟨S,by dsimp only;omega,by dsimp only;omega,X,by dsimp only;omega,by dsimp only;omega⟩,by have:=B.2.2.2.2.2.2.2.1;dsimp only;omega,by dsimp only;omega,by dsimp only;omega,Y⟩;rintro L j ⟨c,h2⟩ ⟨H,I,e⟩ hj G;dsimp only at H I e G ⊢;unfold AAT Yx pD;dsimp only;rw[I,dec_lt];rcases AV j Q.A4.length with k|k
   .obtain⟨o,eo,co⟩:=MV H 3;obtain⟨x,ex,_,_,_,cx⟩:=CU co (r.1.AY.length:Int);rw[decide_eq_true k,BJ,eo,AB,Bn,ex,AB,BH (by omega),AB,AB,AR,AR,Bg k (by omega)];split
    .exact G (_,_) ⟨cx,by simp[I],e.1,e.2.1,e.2.2.1,⟨e.2.2.2.1.Dj,e.2.2.2.1.CJ,e.2.2.2.1.EL,e.2.2.2.1.Dq,e.2.2.2.1.todo,by simp only[A8];exact e.2.2.2.1.GV⟩,e.2.2.2.2.1,e.2.2.2.2.2.1,by simp only[A8];exact e.2.2.2.2.2.2.1,e.2.2.2.2.2.2.2⟩ k
    .exact G (_,_) ⟨co,I,e⟩ k
   .rw[decide_eq_false (by omega),BT,AR];exact⟨_,rfl,e,H⟩
 refine JR (n:=n) (fun i (v:Int×AZ×AE)=>(v.1,(i:Int),v.2.1,v.2.2)) (fun i v=>CL v.2.1/\AJs r.1 i v.2.2) _ (by omega) ?_ (v:=(0,b.2,_)) ⟨cb,B.1,B.2.1,B.2.2.1,B.2.2.2.1,B.2.2.2.2.1,B.2.2.2.2.2.1,B.2.2.2.2.2.2.1,B.2.2.2.2.2.2.2.1,by have:=a3 (by omega);unfold Nk;dsimp only;omega⟩;rintro L i ⟨t,c,h⟩ ⟨J,O⟩ hi G;dsimp only at J O G ⊢;obtain⟨H,I,e,k4,k5,k6,k7⟩:=O;unfold AAR;dsimp only;rw[hn,dec_lt];rcases AV i n with g|g
 .obtain⟨p,ep,cp⟩:=ADB J r.1 h.Now;obtain⟨x1,e1,_,_,_,c1⟩:=CU cp 12;obtain⟨x2,e2,_,_,_,c2⟩:=CU c1 2;obtain⟨x3,e3,_,_,_,c3⟩:=CU c2 4;rw[decide_eq_true g,BJ,ep,AB,e1,AB,e2,AB,e3,AB,MN,AB,Bn,AR,AR];have j3:∀(q:AQ) (b:Bool),∃y,SW L t (i:Int) h x3 q b=some y/\xw y.1/\CL y.2:=by
   intro q b;unfold SW gX;obtain⟨l,el,hl⟩:=AMd (l:=h.AG) (by omega) q;rw[Bn,AR,el,AB,AR,Bg g (by omega)];split
   .exact G (_,_,_) ⟨c3,H,I,e,by dsimp only;omega,by dsimp only;omega,k6,k7⟩ g
   .exact G (_,_,_) ⟨c3,H,I,e,by dsimp only;omega,by dsimp only;omega,k6,k7⟩ g
  have j2:∀q:AQ,∃y,Wc r L t (i:Int) h x3 q=some y/\xw y.1/\CL y.2:=by
   intro q;unfold Wc;obtain⟨a,ea,_⟩:=ATv h.AG (by omega) q.Id;have eb:=NL (l:=h.AG) (by omega) q.Aa;obtain⟨d,ed⟩:=ATw (h:=h) (p:=q) (by omega) H e;simp only[ea,eb,ed,AB,Bn,AR]
   repeat' split
   all_goals exact j3 _ _
  split<;>exact j2 _
 .rw[decide_eq_false (by omega),BT,AR];exact post _ J ⟨H,I,e,by dsimp only;omega,by dsimp only;omega,k6,k7⟩
theorem ARl{h:AE}(q:DE h=true):∀n∈F7 h,okN n:=by
 have e:=OO q;have I:=JI q;have hR:=CK e.rules;have y:=Lf h.AS;rw[lO];intro n a;unfold okN;simp only[Ag,CO,List.mem_flatMap,List.mem_map]at a;rcases a with rfl|a|rfl|rfl|rfl|⟨p,L,a⟩|⟨c,E,rfl⟩|rfl|a|⟨j,H,rfl⟩
 .omega
 .unfold KV at a;simp only[Ag,CO,Hi,or_false]at a;rcases a with (rfl|rfl|rfl|rfl|rfl|rfl|rfl|rfl)|a
  all_goals first|omega|skip
  have:=hR.2.2.2.2.2.1 n a;omega
 .omega
 .omega
 .omega
 .obtain⟨i,hi,rfl⟩:=C7.1 L;have O:=FG (e.par i hi);unfold LK at a;simp only[Ag,Hi,or_false]at a;have G:=A6 (n:=h.AG[i].Bl+1) (by omega) (by omega);rw[G]at a;omega
 .obtain⟨i,hi,rfl⟩:=C7.1 E;have B:i<h.AS.AY.length:=by rw[<-e.EL];exact hi
  have hD:h.AS.AY.getD i 0=h.AS.AY[i]:=by simp[List.getD,B]
  have g:=(e.cab i hi).2;have Q:=hR.2.2.2.2.2.1 _ (As B);rw[hD]at g;omega
 .have:=e.todo;have:=e.Dj;omega
 .obtain⟨i,hi,rfl⟩:=C7.1 a;have g:=JT.1 I.2.2.2.2.2.2.1 i hi;unfold RY at g;have J:=e.EL;have:=e.Dj;rw[CR hi,Bool.and_eq_true,CP,A6 (by omega) (by omega)]at g;omega
 .have:=e.job j H;unfold up;rw[A6 (by omega) (by omega)];omega
theorem ADt(l:List AQ):(l.flatMap LK).length=10*l.length:=by
 induction l with
 |nil=>rfl|cons p l a=>rw[List.flatMap_cons,AK,a,AH];show 10+_=_;omega
theorem ARk{h:AE}(c:DE h=true):16<=(F7 h).length:=by
 have a:=OO c;have e:=Lf h.AS;have g:=a.Dj;have j:=a.EL;have q:=a.R3;have y:=a.AZm;rw[lO];simp only[AH,AK,List.length_map,ADt];omega
theorem ATc{h:AE}(a:DE h=true){q:Int}(c:inB q 0 1000000=true):Et h q=four ((KO (pL (q::F7 h)):Nat):Int)++pL (q::F7 h):=by
 unfold Et;rw[AX ⟨a,c⟩]
theorem ACx{h:AE}(c:DE h=true){q:Int}(e:inB q 0 1000000=true):∀n∈q::F7 h,okN n:=by
 intro n a;rw[CP]at e;rcases Ag.1 a with rfl|a
 .unfold okN;omega
 .exact ARl c n a
theorem AMP{h:AE}(a:DE h=true){q:Int}(c:inB q 0 1000000=true):(Et h q).drop 4=pL (q::F7 h)/\20<=(Et h q).length:=by
 rw[ATc a c];have e:=AR1 (ACx a c);have g:=ARk a;refine⟨List.drop_left' (G4 _),?_⟩;rw[AK,G4];simp only[AH]at e;omega
theorem AMQ{h:AE}(a:DE h=true)(j:Bk h){q:Int}(g:inB q 0 1000000=true):pF (Et h q)=some (h,q,true):=by
 have G:=IX h q;obtain⟨c,E⟩:=AMP a g;obtain⟨r,_,e,B⟩:=Oz (s:=Et h q) (by omega);rw[e,B.all h q a j ?_ rfl (by omega)];have y:(pL (q::F7 h)).length<=(Et h q).length:=by rw[<-c,BK];omega
 rw[c];exact xB _ _ (ACx a g) (by omega)
theorem AYB{γ:Type}{P:γ->Prop}{c:Prop} [Decidable c] {x y:AA γ} (a:∃r,x=some r/\P r) (e:∃r,y=some r/\P r):∃r,(if c then x else y)=some r/\P r:=by
 grind
theorem AYp{c:AZ}(e:CL c){r:Ab}(j:r.AY.length<=1048576)(now:Int):∃x,AHW c r now=some x/\CL x.2:=by
 have g:∀x:AZ×AQ,CL x.1->∃y,Wo x=some y/\CL y.2:=by
  rintro⟨c,p⟩ h;unfold Wo IP;dsimp only at h ⊢;obtain⟨a,ea,ca,_⟩:=Ht h (l:=[-1,0,2,5,7,1000000,1000001,9223372036854775807,-9223372036854775808]) (by simp);obtain⟨b,eb,_,_,_,cb⟩:=CU ca 24;obtain⟨d,ed,cd,_⟩:=Ht cb (l:=[0,999,1000,-1]) (by simp);rw[ea,AB,eb,AB];simp only[Bn,ed,AB,AR];refine AYB ⟨_,rfl,cd⟩ ?_
  iterate 9 refine AYB ⟨_,rfl,cb⟩ ?_
  exact⟨_,rfl,cb⟩
 unfold AHW;rw[IH (by omega),AB];obtain⟨x,ex,cx⟩:=ADB e r now;cases D7 r with
 |true=>rw[BJ,ex,AB,AR];exact g _ cx|false=>rw[BT,AR];exact g _ e
theorem ADE{c:AZ}(E:CL c):∃x,AAe c=some x/\CL x.2:=by
 unfold AAe;obtain⟨H,j,_,_,_,a⟩:=CU E 6;obtain⟨I,q,_,_,_,e⟩:=CU a 6;obtain⟨G,y,_,_,_,g⟩:=CU e 8;obtain⟨J,B,_,_,_,h⟩:=CU g (w64 (G.1+1));rw[j,AB,q,AB,y,AB,B,AB];exact⟨_,rfl,h⟩
theorem AVr{c:AZ}(g:CL c):∃x,AHX c=some x/\CL x.2:=by
 unfold AHX Nt;obtain⟨B,j,a⟩:=ADE g;obtain⟨E,q,e,_⟩:=Ht a (l:=[-1,0,60,61,9223372036854775807,-9223372036854775808]) (by simp);obtain⟨G,y,_,_,_,h⟩:=CU e 16
 grind[AB,Bn,AR]
theorem ADC{c:AZ}(J:CL c):∃x,AAf c=some x/\CL x.2:=by
 unfold AAf Pu;obtain⟨L,y,_,_,_,a⟩:=CU J 4;obtain⟨O,B,_,_,_,e⟩:=CU a 20;obtain⟨Q,E,_,_,_,g⟩:=CU e 12;obtain⟨S,G,_,_,_,h⟩:=CU g 6;obtain⟨X,H,j,_⟩:=Ht h (l:=[-1,0,5,7,1000,1000001,9223372036854775807,-9223372036854775808]) (by simp);obtain⟨Y,I,_,_,_,q⟩:=CU j 30;rw[y,AB,B,AB,E,AB,G,AB,H,AB,I,AB];simp only[Bn,AR]
 repeat' split
 all_goals exact⟨_,rfl,q⟩
theorem rR{l:List Ai}(a:l.length<=1000)(e:Ai):∃x,AHY l e=some x/\x.1.length<=l.length+1:=by
 have hlim:lim=268435456:=rfl;have c:(put ltE e l).length=l.length+1:=Fi ..;unfold AHY iD;rw[Vb (by omega),AB,RT _ (by omega),AB,BP,RT _ (by omega),AB];simp only[AR,BP,Ov (show l.length<=lim by omega),AB,Bn]
 repeat' split
 all_goals first|exact⟨_,rfl,by omega⟩|exact⟨_,rfl,by dsimp only;omega⟩
theorem ADD{c:AZ}(hc:CL c):∃x,AAg c=some x/\x.1.length<=20/\CL x.2:=by
 have G:∀(n:Nat) (c:AZ),n<=20->CL c->∃y,Wp ((n:Int),c)=some y/\y.1.length<=20/\CL y.2:=by
  intro n c hn h;unfold Wp;dsimp only;refine JR (n:=n) (fun i (v:List Ai×AZ)=>(v.1,(i:Int),v.2)) (fun i v=>v.1.length<=i/\CL v.2) _ (by omega) ?_ (v:=([],c)) ⟨Ad _,h⟩;rintro L i ⟨l,c⟩ ⟨Y,a⟩ hi g;dsimp only at Y a g ⊢;unfold AAi iE AAh;dsimp only;rcases AV i n with h|h
  .obtain⟨x,ex,cx⟩:=ADC a;rw[B7 h,BJ,ex,AB,BL,Bg h (by omega),AR,AR];split
   .obtain⟨q,eq,e⟩:=rR (l:=l) (by omega) (Ai.mk x.1.Level x.1.Av (w64 (100+(i:Int))) x.1.BC);rw[eq,AB];exact g (_,_) ⟨Aw e (by omega),cx⟩ h
   .obtain⟨q,eq,e⟩:=rR (l:=l) (by omega) x.1;rw[eq,AB];exact g (_,_) ⟨Aw e (by omega),cx⟩ h
  .obtain rfl:i=n:=by omega
   rw[Cl,BT,AR];exact⟨_,rfl,by dsimp only;omega,a⟩
 unfold AAg;obtain⟨r1,Q,I,b1,B,J⟩:=CU hc 9;obtain⟨r2,S,j⟩:=MV J 12;obtain⟨r3,X,a3,b3,E,O⟩:=CU j 4;have B:=B (by omega);have E:=E (by omega);obtain⟨n1,Z⟩:=Ac I;obtain⟨H,h3⟩:=Ac a3;rw[Q,AB,S,AB,Bn];split
 .rw[X,AB,AR,A6 (by omega) (by omega),h3,show (10:Int)+(H:Int)=((10+H:Nat):Int) from by omega];exact G _ _ (by omega) O
 .rw[AR,Z];exact G _ _ (by omega) j
theorem AVq{c:AZ}(E:CL c):∃x,AHZ c=some x/\x.1.length<=1000/\CL x.2:=by
 have hlim:lim=268435456:=rfl;unfold AHZ Sd;obtain⟨e,j,Q,h⟩:=ADD E;obtain⟨g,q,_,_,_,a⟩:=CU h 10;obtain⟨X,L,J⟩:=ADC a;rw[j,AB,q,AB];cases O:(g.1==0) with
 |true=>
  grind[BJ,AB,B6,Ka,AR,List.length_append,List.length_cons,List.length_nil]
 |false=>
  rw[BT];cases B:(g.1==1) with
  |true=>
   rw[BJ,BL];split
   .rename_i S;obtain⟨x,G⟩:=Fy (l:=e.1) (i:=0) (by omega) (by omega);obtain⟨y,H⟩:=Fy (l:=e.1) (i:=1) (by omega) (by omega);obtain⟨z,I⟩:=Fy (l:=List.set e.1 (Int.toNat 0) y) (i:=1) (by omega) (by rw[A8];omega);simp only[G,H,I,AB,AR];exact⟨_,rfl,by simp only[A8];omega,a⟩
   .rw[AR];exact⟨_,rfl,by dsimp only;omega,a⟩
  |false=>rw[BT,AR];exact⟨_,rfl,by dsimp only;omega,a⟩
theorem ATx{c:AZ}(H:CL c):∃x,AAj c=some x/\CL x.2:=by
 unfold AAj Wq;obtain⟨I,q,_,_,_,e⟩:=CU H 24;obtain⟨J,y,_,_,_,g⟩:=CU e 12;obtain⟨L,B,_,_,_,a⟩:=CU g 20;obtain⟨O,E,h,_⟩:=Ht a (l:=[0,-1,-9,1000008,1000009,9223372036854775807,-9223372036854775808]) (by simp);obtain⟨Q,G,j,_⟩:=Ht a (l:=[0,999,1000,-1]) (by simp);rw[q,AB,y,AB,B,AB];simp only[Bn,AR,E,G,AB]
 repeat' split
 all_goals first|exact⟨_,rfl,h⟩|exact⟨_,rfl,j⟩|exact⟨_,rfl,a⟩
theorem AVt{c:AZ}(E:CL c):∃x,AHa c=some x/\x.1.length<=8/\CL x.2:=by
 have hlim:lim=268435456:=rfl;unfold AHa;obtain⟨H,y,j,_,a,q⟩:=CU E 8;have a:=a (by omega);obtain⟨n,G⟩:=Ac j;rw[y,AB];refine JR (n:=n) (fun i (v:List BO×AZ)=>(v.1,(i:Int),v.2)) (fun i v=>v.1.length<=i/\CL v.2) _ (by omega) ?_ (v:=([],H.2)) ⟨Ad _,q⟩;rintro L i ⟨l,c⟩ ⟨B,e⟩ hi g;dsimp only at B e g ⊢;unfold AAl AAk;dsimp only;rw[G];rcases AV i n with h|h
 .obtain⟨x,ex,cx⟩:=ATx e;rw[B7 h,BJ,ex,AB,B6 (by rw[Ka];omega),Bg h (by omega)];exact g (_,_) ⟨by dsimp only;rw[AK,AH,AN];omega,cx⟩ h
 .obtain rfl:i=n:=by omega
  rw[Cl,BT,AR]
  grind
theorem AMi{w:Aq}(a:w.Am.length=9)(p:BO):(NR w p).1.Am.length=9:=by
 grind[NR,Vk,List.length_set]
theorem AT8{w:Aq}(a:w.Am.flatten.length<=10)(p:BO):(NR w p).1.Am.flatten.length<=10:=by
 unfold NR;split
 .rename_i h;exact(Ds.1 h.2.2).few
 .exact a
theorem ADF{c:AZ}(H:CL c):∃x,AAm c=some x/\Cz x.1/\(x.1.Am.length=9/\x.1.Am.flatten.length<=10)/\CL x.2:=by
 have hlim:lim=268435456:=rfl;have I:∀(l:List BO) (c:AZ),l.length<=100->CL c->∃y,Wr ⟨List.replicate 9 []⟩ (l,c)=some y/\Cz y.1/\(y.1.Am.length=9/\y.1.Am.flatten.length<=10)/\CL y.2:=by
  intro l c Q h;unfold Wr;dsimp only;refine JR (n:=l.length) (fun i (v:Aq)=>((i:Int),v)) (fun _ v=>Cz v/\v.Am.length=9/\v.Am.flatten.length<=10) _ (by omega) ?_ (v:=⟨List.replicate 9 []⟩) ⟨Re,by simp,by simp⟩;rintro L i w ⟨e,g⟩ hi j;unfold AAp AAn;dsimp only;rcases AV i l.length with a|a
  .rw[B7 a,BJ,BH a,AB,AB,Lq e,AB,Bg a (by omega)];exact j _ ⟨YW e _,AMi g.1 _,AT8 g.2 _⟩ a
  .obtain rfl:i=l.length:=by omega
   rw[Cl,BT,AR];exact⟨_,rfl,e,g,h⟩
 unfold AAm;obtain⟨J,E,O,q⟩:=AVt H;obtain⟨S,G,B⟩:=MV q 10;rw[Q9,AB,E,AB,G,AB,Bn];split
 .refine JR (n:=10) (fun i (v:List BO)=>(v,(i:Int))) (fun i v=>v.length<=8+i) _ (by omega) ?_ (v:=J.1) (by omega);intro L i l e hi j;unfold AAo;dsimp only;rw[BL];rcases AV i 10 with h|h
  .rw[AX (by omega),B6 (by rw[Ka];omega),Bg h (by omega)];exact j _ (by rw[AK,AH,AN];omega) h
  .rw[AU (by omega),AR];exact I _ _ (by omega) B
 grind[AR]
theorem AVs{c:AZ}(Z:CL c):∃x,AHb c=some x/\Cz x.1/\CL x.2:=by
 have hlim:lim=268435456:=rfl;unfold AHb Se;obtain⟨e,O,j,⟨h9,X⟩,J⟩:=ADF Z;obtain⟨E,Q,_,_,_,h⟩:=CU J 10;rw[O,AB,Q,AB];cases h0:(E.1==0) with
 |true=>
  obtain⟨I,y,a3,_,g,q⟩:=CU h 9;have g:=g (by omega);obtain⟨k,hk⟩:=Ac a3;have a:k<e.1.Am.length:=by omega
  obtain⟨G,S,L⟩:=ATx q;have hsl:=KY a;have h2:=j.2;have hh:Y.Mc k 0 [U.sl (C.st 5) (e.1.Am[k]++[G.1])].length [(k,0)]:=⟨rfl,⟨Ad _,by simp⟩,trivial⟩;have B:=jw a (e.1.Am[k]++[G.1]);rw[BJ,y,AB,hk,BH a,AB,AB,S,AB,B6 (by rw[Ka];omega),AB,AB,Int.toNat_natCast,B6 hh,AR];refine⟨_,rfl,⟨by dsimp only;rw[A8];omega,?_⟩,L⟩;rw[AK,AH,AN]at B;show (e.1.Am.set k (e.1.Am[k]++[G.1])).flatten.length<=_;omega
 |false=>
  rw[BT];cases h1:(E.1==1) with
  |true=>
   obtain⟨I,y,a3,_,g,q⟩:=CU h 10;have g:=g (by omega);rw[BJ,y,AB,B6 ⟨by omega,by omega⟩,AR];refine⟨_,rfl,⟨?_,?_⟩,q⟩
   .dsimp only;rw[BI,BK];omega
   .dsimp only;have H:=congrArg (fun s=>s.flatten.length) (List.take_append_drop (I.1.toNat-0) e.1.Am);simp only[ED,AK]at H;have:=j.2;rw[List.drop_zero];omega
  |false=>
   rw[BT];cases H:(E.1==2) with
   |true=>
    rw[BJ,B6 (by omega),AR];refine⟨_,rfl,⟨?_,?_⟩,h⟩
    .dsimp only;rw[AK,AH,AN];omega
    .dsimp only;rw[ED];simpa using j.2
   |false=>rw[BT,AR];exact⟨_,rfl,j,h⟩
theorem ATu{c:AZ}(H:CL c):∃x,AHc c=some x/\EE x.1/\CL x.2:=by
 unfold AHc iF;obtain⟨O,E,B⟩:=MV H 4;rw[E,AB,Bn];split
 .obtain⟨I,h,a⟩:=AVr B;obtain⟨J,j,G,e⟩:=AVq a;obtain⟨L,q,y,g⟩:=AVs e;rw[h,AB,j,AB,q,AB];exact⟨_,rfl,⟨by dsimp only;omega,y⟩,g⟩
 .unfold ANT;obtain⟨I,h,a⟩:=ADE B;obtain⟨J,j,G,e⟩:=ADD a;obtain⟨L,q,y,_,g⟩:=ADF e;rw[h,AB,j,AB,q,AB,AB,Bn,AR,AR];split<;>exact⟨_,rfl,⟨by dsimp only;omega,y⟩,g⟩
theorem AC7{c:AZ}(X:CL c):∃x,AAq c=some x/\Bk x.1/\CL x.2/\Nk x.1:=by
 have hlim:lim=268435456:=rfl;unfold AAq G3;obtain⟨h,O,⟨b1,b2,b3,Y,b4,b5,b6,nk⟩,J⟩:=AXh X;obtain⟨r2,Q,L,Z⟩:=Ht J (l:=[-1,0,1,3,1000000,1000001,1000002,9223372036854775807,-9223372036854775808]) (by simp);obtain⟨G,S,_,_,_,e⟩:=CU L 40;obtain⟨a,j,f3,g,B,E⟩:=Y;rw[O,AB,Q,AB,S,AB];cases k0:(G.1==0) with
 |true=>
  rw[BJ,AR];refine⟨_,rfl,⟨a,j,f3,g,B,E⟩,e,?_⟩;simp only[Ag,Hi,or_false]at Z;unfold Nk;dsimp only;omega
 |false=>
 rw[BT];cases k1:(G.1==1) with
 |true=>rw[BJ,AR];exact⟨_,rfl,⟨a,j,f3,g,B,E⟩,e,nk⟩|false=>
 rw[BT];cases k2:(G.1==2) with
 |true=>
  rw[BJ,B6 (by rw[Ka];omega),AR];exact⟨_,rfl,⟨a,j,f3,g,by dsimp only;rw[AK,AH,AN];omega,E⟩,e,nk⟩
 |false=>
 rw[BT];cases k3:(G.1==3) with
 |true=>
  rw[BJ,B6 (by rw[Ka];omega),AR];exact⟨_,rfl,⟨a,j,f3,g,B,by dsimp only;rw[AK,AH,AN];omega⟩,e,nk⟩
 |false=>
 rw[BT];cases k4:(G.1==4) with
 |true=>
  obtain⟨p,ep,cp⟩:=AYp e a h.1.Now;rw[BJ,ep,AB,B6 (by rw[Ka];omega),AR];exact⟨_,rfl,⟨a,by dsimp only;rw[AK,AH,AN];omega,f3,g,B,E⟩,cp,nk⟩
 |false=>
 rw[BT];cases k5:(G.1==5) with
 |true=>
  rw[BJ,BL];split
  .obtain⟨x,H⟩:=Fy (l:=h.1.AG) (i:=0) (by omega) (by omega);simp only[H,AB,AR];exact⟨_,rfl,⟨a,by simp only[A8];exact j,f3,g,B,E⟩,e,nk⟩
  .rw[AR];exact⟨_,rfl,⟨a,j,f3,g,B,E⟩,e,nk⟩
 |false=>
 rw[BT];cases k6:(G.1==6) with
 |true=>
  rw[BJ,A6 (by omega) (by omega),B6 ⟨by omega,by omega⟩,AR];refine⟨_,rfl,⟨a,j,?_,?_,B,E⟩,e,nk⟩
  .dsimp only;rw[BI,BK];omega
  .intro x H;exact g x (List.mem_of_mem_drop (List.mem_of_mem_take H))
 |false=>
 rw[BT];cases k7:(G.1==7) with
 |true=>
  obtain⟨q,eq,hq,cq⟩:=ATu e;obtain⟨x,H⟩:=Fy (l:=h.1.AI) (i:=0) (by omega) (by omega);rw[BJ,eq,AB,H,AB,AB,AR];refine⟨_,rfl,⟨a,j,by simp only[A8];exact f3,?_,B,E⟩,cq,nk⟩;intro y I;rcases E3 I with I|rfl
  .exact g y I
  .exact hq
 |false=>
 rw[BT];cases k8:(G.1==8) with
 |true=>rw[BJ,AR];exact⟨_,rfl,⟨a,j,f3,g,B,E⟩,e,nk⟩|false=>
 rw[BT];cases k9:(G.1==9) with
 |true=>
  rw[BJ,BL];split
  .obtain⟨x,H⟩:=Fy (l:=h.1.AG) (i:=0) (by omega) (by omega);obtain⟨y,I⟩:=Fy (l:=h.1.AG) (i:=1) (by omega) (by omega);simp only[H,I,AB,AR];exact⟨_,rfl,⟨a,by simp only[A8];exact j,f3,g,B,E⟩,e,nk⟩
  .rw[AR];exact⟨_,rfl,⟨a,j,f3,g,B,E⟩,e,nk⟩
 |false=>rw[BT,AR];exact⟨_,rfl,⟨a,j,f3,g,B,E⟩,e,nk⟩
theorem AGC{c:AZ}(a:CL c):∃x,AAq c=some x/\Bk x.1/\CL x.2:=by
 grind[AC7]
theorem AFx(l:List Ai):EZ eqE l l=true:=(Hs cM).2 rfl
theorem AFy(l:List BO):EZ eqP l l=true:=(Hs cO).2 rfl
theorem AGQ(x:Int):(x==x)=true:=beq_self_eq_true x
theorem AF1{r:Ab}(a:r.AY.length<=1048576):pG r r=some true:=by
 grind[pG,I1,JC,QO,AB,BJ,AR]
theorem AF2{w:Aq}(c:Cz w)(a:Gx w=true):pH w w=some true:=by
 unfold pH Sf
 grind[IF,HD,MU,PO,Ek,AFy,AB,BJ,AR]
theorem AFz{c:Ae}(a:EE c)(e:LN c=true):pI c c=some true:=by
 have g:Gx c.By=true:=by
  grind[LN]
 have h:=a.1;unfold pI Nu;simp only[NK a,e,AGQ,CS,RU (show c.Row.length<2 ^ 62 by omega),AFx,AF2 a.2 g,AB,BJ,AR]
theorem AF0{h:AE}(a:Bk h)(e:DE h=true):UW h h=some true:=by
 have j:=a.Dj;have B:=a.CJ;have E:=a.EL;have G:=a.todo;have H:=a.GV;unfold UW IN;simp only[GK a,e,AF1 j,JC (show h.BA.length<2 ^ 62 by omega),JC (show h.A4.length<2 ^ 62 by omega),QO.2,ne_self,AB,Br,BT,AR];have q:SX h h ()=some true:=by
  unfold SX;have key:=AX9 (n:=h.AI.length) (F:=Ps h h) (by omega) ?_ ?_
  .rw[ne_self,BT]at key;exact key
  .intro L i hi;have c:LN h.AI[i]=true:=by
    have I:=JT.1 (JI e).2.2.2.2.2.2.2.2.2 i hi
    grind[Vw,CR,Jy]
   unfold Ps;rw[B7 hi,BJ,BH hi,AB,AB,AFz (a.Dq _ (As hi)) c,AB,BP,BJ]
  .intro L;unfold Ps gm;rw[Cl,BT,AR]
 rw[<-q];refine(C9 (n:=h.AG.length) (fun i (_:Unit)=>(i:Int)) (fun _ _=>True) (fun _ _=>SX h h ()) (by omega) ?_ (v:=()) trivial);intro L i _ _ hi y;unfold Wi;rcases AV i h.AG.length with g|g
 .rw[B7 g,BJ,BH g,AB,AB,Bg g (by omega)];simp only[AGQ,CS,Br,BT];exact y () trivial g
 grind[BT,AR]
theorem AF5:pF []=some (Jh,0,false):=rfl
theorem AXg{c:AZ}(hc:CL c){h:AE}(hh:Bk h):∃x,pE c h=some x/\CL x.2:=by
 unfold pE;obtain⟨x1,O,_,_,_,H⟩:=CU hc 12;have j4:∀x:AZ×B1,gb x=some (x.2,x.1):=fun _=>rfl
 have j5:∀(v x:Int) (y:Int×AZ) (b:Bool),CL y.2->∃z,Wf h v x y b=some z/\CL z.2:=by
  intro v x y b a;unfold Wf;obtain⟨G,e,_,_,_,g⟩:=CU a x;obtain⟨z2,j,_,_,_,q⟩:=CU g 4;obtain⟨z3,f3,_,_,_,B⟩:=CU a (if 1>h.AS.C5 then 1 else h.AS.C5);simp only[e,j,f3,ML,AB,Bn]
  repeat' split
  all_goals first|exact⟨_,rfl,q⟩|exact⟨_,rfl,a⟩|exact⟨_,rfl,B⟩
 have j3:∀(v x:Int) (y:Int×AZ) (b:Bool),CL y.2->∃z,Pr h v x y b=some z/\CL z.2:=by
  intro v x y b a;unfold Pr;obtain⟨G,e,_,_,_,g⟩:=CU a 14;obtain⟨z2,j,_,_,_,q⟩:=CU g x;obtain⟨z3,f3,_,_,_,B⟩:=CU q (if 1>h.AS.BC then 1 else h.AS.BC);obtain⟨z4,Q,_,_,_,Y⟩:=CU B (if 1>h.AS.CX then 1 else h.AS.CX);obtain⟨z5,S,I⟩:=MV Y 3;obtain⟨z6,X,_,_,_,Z⟩:=CU I x;simp only[e,j,f3,Q,S,X,ML,AB,Bn,AR,Cm,JW,JX,JY,JZ,I3,Ja,Jb,K1,j4]
  repeat' split
  all_goals first|exact⟨_,rfl,Z⟩|exact⟨_,rfl,I⟩|exact⟨_,rfl,a⟩|exact j5 _ _ _ _ a
 have E:∀x:Int×AZ,CL x.2->∃z,We h x=some z/\CL z.2:=by
  rintro⟨v,c⟩ a;unfold We;dsimp only at a ⊢;obtain⟨G,e,_,_,_,g⟩:=CU a 12;simp only[e,ML,AB,Bn,AR]
  repeat' split
  all_goals exact j3 _ _ _ _ g
 have hp:=hh.CJ;rw[O,AB,BL];split
 .rename_i h0;obtain⟨o,eo,co⟩:=MV H 3;rw[eo,AB,AR];unfold Wd;dsimp only;rw[Bn];split
  .obtain⟨G,e,J,_,L,g⟩:=CU co (h.AG.length:Int);obtain⟨k,hk⟩:=Ac J;have:=L (by omega);rw[e,AB,hk,BH (by omega),AB,AR];exact E _ g
  .rw[AR];exact E _ co
 .rw[AR];unfold Wd;dsimp only;rw[BT,AR];exact E _ H
theorem ATi{c:AZ}(e:CL c){h:AE}(g:Bk h):∃x,AHO c h=some x/\CL x.2:=by
 unfold AHO;obtain⟨q,eq,cq⟩:=AXg e g;obtain⟨a,ea,ca,_⟩:=Ht cq (l:=([-1,0,1,4,7,61,1000,9999,10000,9223372036854775807,-9223372036854775808]:List Int)) (by simp);obtain⟨b,eb,_,_,_,cb⟩:=CU ca 20;have j:∀x:AZ×B1,ME x=some (x.2,x.1):=fun _=>rfl
 simp only[eq,ea,eb,AB,Bn,AR,j]
 grind
theorem AYr{c:AZ}(j:CL c){h:AE}(y:Bk h):∃x,AHR c h=some x/\CL x.2:=by
 have G:=y.CJ;unfold AHR;have B:([4,4,5]:List Int)≠[]:=by simp
 refine JR (n:=h.AG.length) (fun i (v:AZ)=>((i:Int),v)) (fun _ v=>CL v) (fun x:B1×AZ=>CL x.2) (by omega) ?_ j;intro L i v e hi H;unfold AAX;dsimp only;rcases AV i h.AG.length with a|q
 .rw[B7 a,BJ,BH a,AB,Bn];have g:∀x:Bool×AZ,CL x.2->∃r,Wj h L i x=some r/\CL r.2:=by
   rintro⟨b,w⟩ E;unfold Wj;dsimp only;obtain⟨z,ez,cz,_⟩:=Ht E B
   grind[BH,AB,Bg,Bn]
  obtain⟨o,eo,co⟩:=MV e 3;rw[eo,AB];simp only[AR];split
  .exact g _ co
  .exact g _ e
 .obtain rfl:i=h.AG.length:=by omega
  rw[Cl,BT,AR];unfold AAW;obtain⟨o,eo,co⟩:=MV e 4;obtain⟨z,ez,_,_,_,cz⟩:=CU co (if 1>(h.A4.length:Int) then 1 else (h.A4.length:Int));rw[eo,AB,Bn,ML,AB,ez,AB];split
  .exact⟨_,rfl,co⟩
  .exact⟨_,rfl,cz⟩
theorem AJs.fit{r:Ab}(c:D7 r=true){h:AE}(e:AJs r 0 h):Bk h:=by
 obtain⟨g,j,a3,a4,q,y,a,B,E⟩:=e;have G:=CK c;exact⟨a3,by omega,by omega,a,by omega,by omega⟩
end Lv.P
