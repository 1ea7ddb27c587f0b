/-
  Plain laws: what is drawn is there: cursors, rules, parties, right houses; the law 21.
-/
import Derived.Test.YthnbolemafdhfaaGreatPG
set_option linter.unusedVariables false
set_option linter.unusedSimpArgs false
set_option linter.unusedSectionVars false
namespace Lv.P
open Lv Go
theorem qI(a:Int):0<=Z3 a 255/\Z3 a 255<=255:=by
 unfold Z3;have e:(BitVec.ofInt IntKind.i64.bits 255).toNat=255:=rfl;rw [BitVec.toNat_and,e];have:(BitVec.ofInt IntKind.i64.bits a).toNat &&& 255<=255:=Nat.and_le_right;rw [mY (by omega) (by omega)];omega
theorem cZ(s:List UInt8):kB s=some (decide ((s.length:Int)>1048576)):=rfl
def Au(c:AI):Prop:=0<=c.i_/\c.i_<=c.b_.length/\c.b_.length<=1048576
theorem ABs{s:List UInt8}(hs:s.length<=1048576):∃c,kC s=some c/\Au c:=by
 unfold kC;refine Hb (n:=s.length) (fun i (v:Int)=>(v,(i:Int))) (fun _ _=>True) Au (by omega) ?_ trivial;intro L i v _ hi ih;unfold aj Rh ai;dsimp only;simp only [AO,dec_lt];rcases Nat.lt_or_ge i s.length with h|h
 .rw [decide_eq_true h,BE,BT,Af h,AD,Av h (by omega)];split
  .exact ih _ trivial h
  .exact⟨_,rfl,by simp,by simp,hs⟩
 .rw [decide_eq_false (by omega),A9,A9];exact⟨_,rfl,by simp,by simp,hs⟩
theorem eL{c:AI}(hc:Au c):∃r,QB c=some r/\0<=r.1/\r.1<=255/\Au r.2:=by
 obtain⟨h0,h1,h2⟩:=hc;unfold QB Ri;rw [BT];obtain⟨i,hi⟩:=Int.eq_ofNat_of_zero_le h0;split
 .rename_i h;rw [hi,Af (by omega),AD,AO];have:=qI (w64 (Z3 (yC (U5 (w64 (w64 (c.h_*6364136223846793005)+1442695040888963407)) 33) (U5 (w64 (w64 (c.h_*6364136223846793005)+1442695040888963407)) 45)) 255+w64 (↑(UInt8.toNat c.b_[i]):Int)));refine⟨_,rfl,this.1,this.2,?_⟩;rw [Ai (n:=(i:Int)+1) (by omega) (by omega)];exact⟨by dsimp only;omega,by dsimp only;omega,h2⟩
 .rw [AO];have:=qI (yC (U5 (w64 (w64 (c.h_*6364136223846793005)+1442695040888963407)) 33) (U5 (w64 (w64 (c.h_*6364136223846793005)+1442695040888963407)) 45));exact⟨_,rfl,this.1,this.2,h0,h1,h2⟩
theorem VK{a n:Int}(ha:0<=a)(hn:0<n):0<=Int.tmod a n/\Int.tmod a n<n:=by
 rw [Int.tmod_eq_emod_of_nonneg ha];exact⟨Int.emod_nonneg _ (by omega),Int.emod_lt_of_pos _ hn⟩
theorem Az{c:AI}(hc:Au c)(n:Int):∃r,Ao c n=some r/\0<=r.1/\(n<=0->r.1=0)/\(0<n->r.1<n)/\Au r.2:=by
 unfold Ao;rw [BT];by_cases h0:n<=0
 .rw [if_pos h0];exact⟨_,rfl,by simp,by simp,by omega,hc⟩
 rw [if_neg h0,BT];split
 .obtain⟨r,e,h1,h2,h3⟩:=eL hc;rw [e,AD,BP (by omega)];have:=VK h1 (show 0<n by omega);exact⟨_,rfl,this.1,by omega,fun _=>this.2,h3⟩
 .obtain⟨r1,e1,a1,b1,c1⟩:=eL hc;obtain⟨r2,e2,a2,b2,c2⟩:=eL c1;obtain⟨r3,e3,a3,b3,c3⟩:=eL c2;obtain⟨r4,e4,a4,b4,c4⟩:=eL c3;rw [e1,AD,e2,AD,e3,AD,e4,AD,BP (by omega)];rw [Ai (n:=r1.1*16777216) (by omega) (by omega),Ai (n:=r2.1*65536) (by omega) (by omega),Ai (n:=r3.1*256) (by omega) (by omega)];rw [Ai (n:=r1.1*16777216+r2.1*65536) (by omega) (by omega),Ai (n:=r1.1*16777216+r2.1*65536+r3.1*256) (by omega) (by omega),Ai (n:=r1.1*16777216+r2.1*65536+r3.1*256+r4.1) (by omega) (by omega)];have:=VK (a:=r1.1*16777216+r2.1*65536+r3.1*256+r4.1) (by omega) (show 0<n by omega);exact⟨_,rfl,this.1,by omega,fun _=>this.2,c4⟩
theorem FQ{c:AI}(hc:Au c)(n:Int):∃r,Ea c n=some r/\Au r.2:=by
 obtain⟨r,e,_,_,_,h⟩:=Az hc n;unfold Ea;rw [e,AD];exact⟨_,rfl,h⟩
theorem FG{c:AI}(hc:Au c){l:List Int}(hl:l≠[]):∃r,Jq c l=some r/\Au r.2/\r.1∈l:=by
 unfold Jq;have hp:0<l.length:=by cases l with|nil=>exact absurd rfl hl|cons=>simp
 obtain⟨r,e,h1,h2,h3,h4⟩:=Az hc (l.length:Int);obtain⟨k,hk⟩:=Int.eq_ofNat_of_zero_le h1;have:=h3 (by omega);rw [e,AD,hk,Af (by omega),AD];exact⟨_,rfl,h4,List.getElem_mem _⟩
theorem ur{c:AI}(hc:Au c):∃r,ak c=some r/\r.1.AM.length<=3/\DY r.1=true/\Au r.2:=by
 unfold ak;obtain⟨r1,e1,a1,b1,d1,c1⟩:=Az hc 5;obtain⟨r2,e2,a2,b2,d2,c2⟩:=Az c1 9;obtain⟨r3,e3,a3,b3,d3,c3⟩:=Az c2 6;obtain⟨r4,e4,a4,b4,d4,c4⟩:=Az c3 5;obtain⟨r5,e5,a5,b5,d5,c5⟩:=Az c4 4;obtain⟨r6,e6,a6,b6,d6,c6⟩:=Az c5 4;obtain⟨r7,e7,a7,b7,d7,c7⟩:=Az c6 4;obtain⟨r8,e8,a8,b8,d8,c8⟩:=Az c7 3;obtain⟨r9,e9,a9,b9,d9,c9⟩:=Az c8 3;simp only [e1,e2,e3,e4,e5,e6,e7,e8,e9,AD];have d1:=d1 (by omega);have d2:=d2 (by omega);have d3:=d3 (by omega);have d4:=d4 (by omega);have d5:=d5 (by omega);have d6:=d6 (by omega);have d7:=d7 (by omega);have d8:=d8 (by omega);have h9:=d9 (by omega);obtain⟨n,hn⟩:=Int.eq_ofNat_of_zero_le (show 0<=1+r9.1 by omega);refine Hb (n:=n) (fun i (v:AI×AN)=>((i:Int),v.1,v.2)) (fun i v=>Au v.1/\∃ss:List Int,v.2=⟨ss,w64 (1+r1.1),w64 (2+r2.1),w64 (1+r3.1),w64 (1+r4.1),w64 (1+r5.1),r6.1,w64 (1+r7.1),w64 (1+r8.1)⟩/\ss.length=i/\∀x∈ss,2<=x/\x<=13) _ (by omega) ?_ (v:=(r9.2,_)) ⟨c9,[],rfl,rfl,by simp⟩;rintro L i ⟨c,r⟩ ⟨hc,ss,hr,hs,hx⟩ hi ih;unfold aq ao;dsimp only at hc hr ih ⊢;subst hr;rw [Ai (n:=1+r9.1) (by omega) (by omega),hn,dec_lt];rcases Nat.lt_or_ge i n with h|h
 .obtain⟨y,e1,a1,b1,d1,c1⟩:=Az hc 12;have d1:=d1 (by omega);rw [decide_eq_true h,BE,e1,AD,BP (by simp only [List.length_cons,List.length_nil];unfold lim;omega),Av h (by omega)];refine ih (_,_) ⟨c1,_,rfl,by simp [hs],?_⟩ h;intro x hxm;rcases List.mem_append.1 hxm with hxm|hxm
  .exact hx x hxm
  .rw [List.mem_singleton.1 hxm,Ai (by omega) (by omega)];omega
 .rw [decide_eq_false (by omega),A9,AO];refine⟨_,rfl,by dsimp only;omega,?_,hc⟩;unfold DY;simp only [Bool.and_eq_true,BH,List.all_eq_true];rw [Ai (n:=1+r1.1) (by omega) (by omega),Ai (n:=2+r2.1) (by omega) (by omega),Ai (n:=1+r3.1) (by omega) (by omega),Ai (n:=1+r4.1) (by omega) (by omega),Ai (n:=1+r5.1) (by omega) (by omega),Ai (n:=1+r7.1) (by omega) (by omega),Ai (n:=1+r8.1) (by omega) (by omega)];refine⟨by omega,by omega,by omega,by omega,by omega,fun x hxm=>by have:=hx x hxm;omega,by omega,by omega,by omega,by omega⟩
def Nk(h:AA):Prop:=-9223372036854775808<=h.Now/\h.Now<9223372036854775808
def ma(r:AN)(n:Nat)(h:AA):Prop:=h.AE.length<=h.AG.AM.length/\h.AE.length<=r.AM.length/\h.AG.AM.length<=1048576/\h.AB.length<=n/\h.AW.length<=n/\h.AS.length<=3/\(∀c∈h.AE,EZ c)/\1<=h.AE.length/\Nk h
theorem XK{r:AN}(hr:r.AM.length<=3)(hb:DY r=true):∃x,Vx r=some x/\ma r 0 x.1:=by
 have hf:=Yd (r:=r) (by omega);have hk:=BN hb;refine⟨_,iK (by omega),?_⟩;unfold ma;refine⟨?_,?_,hf.Cl,?_,?_,?_,hf.B4,?_,?_⟩ <;> (unfold Kx;rw [if_pos hb]) <;> simp [Nk] <;> omega
theorem vG(l:List AH)(hl:l.length<2 ^ 62)(n:Int):∃i,Nd l n=some i/\(i<0\/∃k:Nat,i=k/\k<l.length):=by
 unfold Nd;refine Hb (n:=l.length) (fun i (_:Unit)=>(i:Int)) (fun _ _=>True) _ (by omega) ?_ (v:=()) trivial;intro L i _ _ hi ih;unfold Nf Rk;rw [dec_lt];rcases Nat.lt_or_ge i l.length with h|h
 .rw [decide_eq_true h,BE,Af h,AD,A7,Av h (by omega)];split
  .exact⟨_,rfl,.inr ⟨i,rfl,h⟩⟩
  .exact ih () trivial h
 .rw [decide_eq_false (by omega),A9,AO];exact⟨_,rfl,.inl (by omega)⟩
theorem eU{c:AI}(hc:Au c)(r:AN)(now:Int):∃x,ar c r now=some x/\Au x.2:=by
 obtain⟨r1,e1,a1,b1,d1,c1⟩:=Az hc 12;obtain⟨r2,e2,a2,b2,d2,c2⟩:=Az c1 (r.AM.length:Int);obtain⟨r3,e3,a3,b3,d3,c3⟩:=Az c2 r.AY;obtain⟨r4,e4,a4,b4,d4,c4⟩:=Az c3 r.Bq;obtain⟨r5,e5,a5,b5,d5,c5⟩:=Az c4 40;obtain⟨r6,e6,a6,b6,d6,c6⟩:=Az c5 r.BF;have j3:∀x:AI×AH,Au x.1->∃y,Rj x=some y/\Au y.2:=by
  rintro⟨c,p⟩ h;exact⟨_,rfl,h⟩
 have j2:∀x:AI×AH,Au x.1->∃y,KB r x=some y/\Au y.2:=by
  rintro⟨c,p⟩ h;unfold KB;obtain⟨o,eo,ho⟩:=FQ h 4;dsimp only;rw [eo,AD,A7,AO];split
  .obtain⟨q,eq,_,_,_,hq⟩:=Az ho (r.AM.length:Int);rw [eq,AD,AO];exact j3 _ hq
  .exact j3 _ ho
 have j1:∀x:AI×AH,Au x.1->∃y,Nc r now x=some y/\Au y.2:=by
  rintro⟨c,p⟩ h;unfold Nc;obtain⟨o,eo,ho⟩:=FQ h 3;dsimp only;rw [eo,AD,A7,AO];split
  .obtain⟨q,eq,_,_,_,hq⟩:=Az ho (w64 (now+r.BI));rw [eq,AD,AO];exact j2 _ hq
  .exact j2 _ ho
 unfold ar;simp only [e1,e2,e3,e4,e5,e6,AD,Bl,KK,KL,KM,KN,I7,KO,KP,C5,FI,EG,A7,AO];split
 .obtain⟨q,eq,_,_,_,hq⟩:=Az c6 (w64 (now+1));obtain⟨o,eo,ho⟩:=FQ hq 3;rw [eq,AD,eo,AD];split
  .obtain⟨q',eq',_,_,_,hq'⟩:=Az ho (w64 (w64 (now+r.Rest)+1));rw [eq',AD];exact j1 _ hq'
  .exact j1 _ ho
 .exact j2 _ c6
theorem vH{h:AA}{p:AH}(h1:h.AB.length<=1000)(h2:h.AE.length<=h.AG.AM.length)(h3:h.AG.AM.length<=1048576):∃b,kD h p=some b:=by
 unfold kD;simp only [List.nil_append,Bl,KK,KL,KM,KN,I7,KO,KP,C5,FI];have hl:(h.AB).length=h.AB.length:=by simp
 rw [BP (by unfold lim;omega),BP (by simp only [List.length_cons,List.length_nil];unfold lim;omega),BP (by unfold lim;omega),BP (by simp only [List.length_cons,List.length_nil];unfold lim;omega),BP (by unfold lim;omega),BP (by simp only [List.length_cons,List.length_nil];unfold lim;omega)];obtain⟨r,h,_⟩:=Hb (F:=Rl h p) (n:=h.AE.length) (fun i (_:Unit)=>(i:Int)) (fun _ _=>True) (fun _=>True) (by omega) (by
  intro L i v _ hi ih;unfold Rl au;rw [dec_lt];rcases Nat.lt_or_ge i h.AE.length with g|g
  .have ea:=LL (l:=[]++h.AB++[p]) (by simp;omega) (i:Int);have eb:=LM (l:=[]++h.AB++[p]) (by simp;omega) (i:Int);rw [decide_eq_true g,BE,Af (show i<h.AG.AM.length by omega),AD,ea,AD,eb,AD,A7,Av g (by omega)];split
   .exact⟨_,rfl,trivial⟩
   .exact ih () trivial g
  .rw [decide_eq_false (by omega),A9,AO];exact⟨_,rfl,trivial⟩) (v:=()) trivial
 exact⟨r,h⟩
theorem pf{l:List AH}(hl:l.length<=1000)(p:AH):∃r,MQ l p=some r/\r.length<=l.length+1:=by
 unfold MQ;obtain⟨i,ei,hi⟩:=vG l (by omega) p.Id;rw [ei,AD,BP (by unfold lim;omega),BT];split
 .rcases hi with hi|⟨k,rfl,hk⟩
  .omega
  .rw [List.nil_append,Af hk,AD,AD];exact⟨_,rfl,by simp⟩
 .refine Hb (n:=l.length) (fun i (_:Unit)=>(i:Int)) (fun _ _=>True) _ (by omega) ?_ (v:=()) trivial;intro L i _ _ hi ih;have hj:∃r,KD l p (i:Int)=some r/\r.length<=l.length+1:=by
   unfold KD;simp only [Bl,KK,KL,KM,KN,I7,KO,KP,C5,FI,List.nil_append,Int.toNat_natCast];have ht:(l.take i).length<=l.length:=by rw [List.length_take];omega
   rw [BP (by omega),BP (by unfold lim;omega),BP (by simp only [List.length_cons,List.length_nil];unfold lim;omega),BP (by unfold lim;omega),BP (by simp only [List.length_cons,List.length_nil];unfold lim;omega),BP (by unfold lim;omega),BP (by simp only [List.length_cons,List.length_nil];unfold lim;omega),BP (by omega)];rw [BP (by simp only [List.length_append,List.length_cons,List.length_nil,List.length_drop];unfold lim;omega)];exact⟨_,rfl,by simp only [List.length_append,List.length_cons,List.length_nil,List.length_drop,List.length_take];omega⟩
  unfold Ng KC;rw [dec_lt];rcases Nat.lt_or_ge i l.length with h|h
  .rw [decide_eq_true h,BE,Af h,AD,AO,BT,Av h (by omega),AO];split
   .exact ih () trivial h
   .exact hj
  .rw [decide_eq_false (by omega),A9,AO,A9,AO];exact hj
theorem AAI{r:AN}(hr:r.AM.length<2 ^ 62){l:List AH}(hl:l.length<=400){k:Nat}(hk:k<r.AM.length)(now x:Int):∃c,kE r l k now x=some c/\EZ c:=by
 unfold kE;obtain⟨ps,ep,hp⟩:∃ps,m9 l (k:Int)=some ps/\ps.length<=400:=⟨_,QY (by omega) _,by unfold Dc;rw [FZ];have:=List.length_filterMap_le (MK (k:Int)) l;omega⟩;rw [M0,AD,ep,AD];obtain⟨c,hc,hc2⟩:=Hb (F:=Rp r l (k:Int) now x ps) (n:=ps.length) (fun i (v:AU)=>((i:Int),v)) (fun i v=>CD v) (fun c=>EZ c) (by omega) (by
  intro L i v hv hi ih;unfold Rp av;dsimp only;rw [dec_lt];rcases Nat.lt_or_ge i ps.length with h|h
  .have ey:=Hz hv ps[i];have hy:=fG hv ps[i];rw [decide_eq_true h,BE,Af h,AD,AD,ey,AD,Av h (by omega)];exact ih _ hy h
  .have ea:=LL (l:=l) (by omega) (k:Int);have eb:=LM (l:=l) (by omega) (k:Int);have eq:=Je hr (l:=l) (by omega) (k:Int) now;rw [decide_eq_false (by omega),A9,AO,ea,AD,eb,AD,Af hk,AD,IW,AD,eq,AD];refine⟨_,rfl,?_,hv⟩;dsimp only;unfold Bn;rw [FZ];have:=List.length_filterMap_le (JZ r (k:Int) now) l;omega) (v:=⟨List.replicate 9 []⟩) VT
 exact⟨c,hc,hc2⟩
theorem uu{l:List Int}(hl:l.length<=1048576)(n:Int):∃r,Jp l n=some r/\r.length<=l.length+1:=by
 unfold Jp;have eb:=Jg (l:=l) (by omega) n;rw [BP (by unfold lim;omega),eb,AD,A7];simp only [List.nil_append];split
 .exact⟨_,rfl,by omega⟩
 .rw [BP (by simp only [List.length_cons,List.length_nil];unfold lim;omega)];exact⟨_,rfl,by simp⟩
def Zt(h:AA):Prop:=h.AB.length<=400/\h.AE.length<=1000/\h.AG.AM.length<=1048576/\Ar h/\1<=h.AE.length/\h.AW.length<=2000/\h.AS.length<=1000/\Nk h
theorem uq{c:AI}(hc:Au c):∃x,aw c=some x/\Zt x.1/\Au x.2:=by
 unfold aw;obtain⟨r,er,hr,hrb,cr⟩:=ur hc;obtain⟨h,eh,hh⟩:=XK hr hrb;obtain⟨a,ea,a1,a2,a3,ca⟩:=Az cr 20;obtain⟨b,eb,b1,b2,b3,cb⟩:=Az ca 9;have hb:=b3 (by omega);rw [er,AD,eh,AD,ea,AD,eb,AD];obtain⟨n,hn⟩:=Int.eq_ofNat_of_zero_le b1;have post:∀x:AI×AA,Au x.1->ma r.1 100 x.2->∃y,Rr r x=some y/\Zt y.1/\Au y.2:=by
  rintro⟨c,h⟩ hc hh;unfold Rr;dsimp only at hc hh ⊢;have hcn:=hh.2.1;refine Hb (n:=h.AE.length) (fun i (v:AI×AA)=>((i:Int),v.1,v.2)) (fun i v=>Au v.1/\v.2.AE.length=h.AE.length/\v.2.AB.length<=100/\v.2.AW.length<=100+i/\v.2.AG.AM.length<=1048576/\v.2.AS.length<=3/\(∀c∈v.2.AE,EZ c)/\Nk v.2) _ (by omega) ?_ (v:=(c,h)) ⟨hc,rfl,hh.2.2.2.1,by dsimp only;have:=hh.2.2.2.2.1;omega,hh.2.2.1,hh.2.2.2.2.2.1,hh.2.2.2.2.2.2.1,hh.2.2.2.2.2.2.2.2⟩;rintro L i ⟨c,h'⟩ ⟨g1,g2,g3,g4,g5,g6,g7,g8⟩ hi ih;dsimp only at g1 g2 g3 g4 g5 g6 g7 g8 ih ⊢;unfold az Rs ax;dsimp only;rw [g2,dec_lt];rcases Nat.lt_or_ge i h.AE.length with g|g
  .obtain⟨x,ex,_,_,_,cx⟩:=Az g1 6;obtain⟨m,em,hm⟩:=AAI (r:=r.1) (by omega) (l:=h'.AB) (by omega) (k:=i) (by omega) h'.Now x.1;obtain⟨o,eo,co⟩:=FQ cx 2;obtain⟨t,et,ht⟩:=uu (l:=h'.AW) (by omega) (i:Int);rw [decide_eq_true g,BE,ex,AD,em,AD,Af (by omega),AD,AD,eo,AD,A7,et,AD,AO,AO,Av g (by omega)];split
   .exact ih (_,_) ⟨co,by simp [g2],g3,by dsimp only;omega,g5,g6,fun c hc=>by
     rcases List.mem_or_eq_of_mem_set hc with hc|rfl
     .exact g7 c hc
     .exact hm,g8⟩ g
   .exact ih (_,_) ⟨co,by simp [g2],g3,by dsimp only;omega,g5,g6,fun c hc=>by
     rcases List.mem_or_eq_of_mem_set hc with hc|rfl
     .exact g7 c hc
     .exact hm,g8⟩ g
  .rw [decide_eq_false (by omega),A9,AO];refine Hb (n:=h'.AS.length) (fun j (v:AI×AA)=>((j:Int),v.1,v.2)) (fun j v=>Au v.1/\v.2.AS.length=h'.AS.length/\Zt v.2) _ (by omega) ?_ (v:=(c,h')) ⟨g1,rfl,by dsimp only;omega,by dsimp only;omega,g5,⟨g5,by dsimp only;omega,by dsimp only;omega,g7,by dsimp only;omega,by dsimp only;omega⟩,by have:=hh.2.2.2.2.2.2.2.1;dsimp only;omega,by dsimp only;omega,by dsimp only;omega,g8⟩;rintro L j ⟨c,h2⟩ ⟨k1,k2,k3⟩ hj ih;dsimp only at k1 k2 k3 ih ⊢;unfold bB PF WO;dsimp only;rw [k2,dec_lt];rcases Nat.lt_or_ge j h'.AS.length with k|k
   .obtain⟨o,eo,co⟩:=FQ k1 3;obtain⟨x,ex,_,_,_,cx⟩:=Az co (r.1.AM.length:Int);rw [decide_eq_true k,BE,eo,AD,A7,ex,AD,Af (by omega),AD,AD,AO,AO,Av k (by omega)];split
    .exact ih (_,_) ⟨cx,by simp [k2],k3.1,k3.2.1,k3.2.2.1,⟨k3.2.2.2.1.Cl,k3.2.2.2.1.BC,k3.2.2.2.1.B2,k3.2.2.2.1.B4,k3.2.2.2.1.todo,by simp only [List.length_set];exact k3.2.2.2.1.DJ⟩,k3.2.2.2.2.1,k3.2.2.2.2.2.1,by simp only [List.length_set];exact k3.2.2.2.2.2.2.1,k3.2.2.2.2.2.2.2⟩ k
    .exact ih (_,_) ⟨co,k2,k3⟩ k
   .rw [decide_eq_false (by omega),A9,AO];exact⟨_,rfl,k3,k1⟩
 refine Hb (n:=n) (fun i (v:Int×AI×AA)=>(v.1,(i:Int),v.2.1,v.2.2)) (fun i v=>Au v.2.1/\ma r.1 i v.2.2) _ (by omega) ?_ (v:=(0,b.2,_)) ⟨cb,hh.1,hh.2.1,hh.2.2.1,hh.2.2.2.1,hh.2.2.2.2.1,hh.2.2.2.2.2.1,hh.2.2.2.2.2.2.1,hh.2.2.2.2.2.2.2.1,by have:=a3 (by omega);unfold Nk;dsimp only;omega⟩;rintro L i ⟨t,c,h⟩ ⟨g1,g2⟩ hi ih;dsimp only at g1 g2 ih ⊢;obtain⟨k1,k2,k3,k4,k5,k6,k7⟩:=g2;unfold ay;dsimp only;rw [hn,dec_lt];rcases Nat.lt_or_ge i n with g|g
 .obtain⟨p,ep,cp⟩:=eU g1 r.1 h.Now;obtain⟨x1,e1,_,_,_,c1⟩:=Az cp 12;obtain⟨x2,e2,_,_,_,c2⟩:=Az c1 2;obtain⟨x3,e3,_,_,_,c3⟩:=Az c2 4;rw [decide_eq_true g,BE,ep,AD,e1,AD,e2,AD,e3,AD,rh,AD,A7,AO,AO];have j3:∀(q:AH) (b:Bool),∃y,KE L t (i:Int) h x3 q b=some y/\Zt y.1/\Au y.2:=by
   intro q b;unfold KE Rq;obtain⟨l,el,hl⟩:=pf (l:=h.AB) (by omega) q;rw [A7,AO,el,AD,AO,Av g (by omega)];split
   .exact ih (_,_,_) ⟨c3,k1,k2,k3,by dsimp only;omega,by dsimp only;omega,k6,k7⟩ g
   .exact ih (_,_,_) ⟨c3,k1,k2,k3,by dsimp only;omega,by dsimp only;omega,k6,k7⟩ g
  have j2:∀q:AH,∃y,Nh r L t (i:Int) h x3 q=some y/\Zt y.1/\Au y.2:=by
   intro q;unfold Nh;obtain⟨a,ea,_⟩:=vG h.AB (by omega) q.Id;have eb:=Gb (l:=h.AB) (by omega) q.AK;obtain⟨d,ed⟩:=vH (h:=h) (p:=q) (by omega) k1 k3;simp only [ea,eb,ed,AD,A7,AO]
   repeat' split
   all_goals exact j3 _ _
  split <;> exact j2 _
 .rw [decide_eq_false (by omega),A9,AO];exact post _ g1 ⟨k1,k2,k3,by dsimp only;omega,by dsimp only;omega,k6,k7⟩
end Lv.P
namespace Lv.P
open Lv Go
end Lv.P
namespace Lv.P
open Lv Go
theorem zz{γ:Type}{P:γ->Prop}{c:Prop} [Decidable c] {x y:Option γ} (hx:∃r,x=some r/\P r) (hy:∃r,y=some r/\P r):∃r,(if c then x else y)=some r/\P r:=by
 split
 .exact hx
 .exact hy
theorem AAG{c:AI}(hc:Au c){r:AN}(hr:r.AM.length<=1048576)(now:Int):∃x,kF c r now=some x/\Au x.2:=by
 have j1:∀x:AI×AH,Au x.1->∃y,Nm x=some y/\Au y.2:=by
  rintro⟨c,p⟩ h;unfold Nm Dq;dsimp only at h ⊢;obtain⟨a,ea,ca,_⟩:=FG h (l:=[-1,0,2,5,7,1000000,1000001,9223372036854775807,-9223372036854775808]) (by simp);obtain⟨b,eb,_,_,_,cb⟩:=Az ca 24;obtain⟨d,ed,cd,_⟩:=FG cb (l:=[0,999,1000,-1]) (by simp);rw [ea,AD,eb,AD];simp only [A7,ed,AD,AO];refine zz ⟨_,rfl,cd⟩ ?_
  iterate 9 refine zz ⟨_,rfl,cb⟩ ?_
  exact⟨_,rfl,cb⟩
 unfold kF;rw [FE (by omega),AD];obtain⟨x,ex,cx⟩:=eU hc r now;cases DY r with
 |true=>rw [BE,ex,AD,AO];exact j1 _ cx
 |false=>rw [A9,AO];exact j1 _ hc
theorem eX{c:AI}(hc:Au c):∃x,bD c=some x/\Au x.2:=by
 unfold bD;obtain⟨r1,e1,_,_,_,c1⟩:=Az hc 6;obtain⟨r2,e2,_,_,_,c2⟩:=Az c1 6;obtain⟨r3,e3,_,_,_,c3⟩:=Az c2 8;obtain⟨r4,e4,_,_,_,c4⟩:=Az c3 (w64 (r3.1+1));rw [e1,AD,e2,AD,e3,AD,e4,AD];exact⟨_,rfl,c4⟩
theorem xv{c:AI}(hc:Au c):∃x,kG c=some x/\Au x.2:=by
 unfold kG Gv;obtain⟨r1,e1,c1⟩:=eX hc;obtain⟨r2,e2,c2,_⟩:=FG c1 (l:=[-1,0,60,61,9223372036854775807,-9223372036854775808]) (by simp);obtain⟨r3,e3,_,_,_,c3⟩:=Az c2 16;rw [e1,AD,e2,AD,e3,AD];simp only [A7,AO]
 repeat' split
 all_goals exact⟨_,rfl,c3⟩
theorem eV{c:AI}(hc:Au c):∃x,aO c=some x/\Au x.2:=by
 unfold aO IG;obtain⟨r1,e1,_,_,_,c1⟩:=Az hc 4;obtain⟨r2,e2,_,_,_,c2⟩:=Az c1 20;obtain⟨r3,e3,_,_,_,c3⟩:=Az c2 12;obtain⟨r4,e4,_,_,_,c4⟩:=Az c3 6;obtain⟨r5,e5,c5,_⟩:=FG c4 (l:=[-1,0,5,7,1000,1000001,9223372036854775807,-9223372036854775808]) (by simp);obtain⟨r6,e6,_,_,_,c6⟩:=Az c5 30;rw [e1,AD,e2,AD,e3,AD,e4,AD,e5,AD,e6,AD];simp only [A7,AO]
 repeat' split
 all_goals exact⟨_,rfl,c6⟩
theorem XL{l:List AT}(hl:l.length<=1000)(e:AT):∃x,jw l e=some x/\x.1.length<=l.length+1:=by
 have hlim:lim=268435456:=rfl;have hp:(put ltE e l).length=l.length+1:=GZ ..;unfold jw RZ;rw [NF (by omega),AD,Jf _ (by omega),AD,Bg,Jf _ (by omega),AD];simp only [AO,Bg,F9 (show l.length<=lim by omega),AD,A7]
 repeat' split
 all_goals first|exact⟨_,rfl,by omega⟩|exact⟨_,rfl,by dsimp only;omega⟩
theorem eW{c:AI}(hc:Au c):∃x,aP c=some x/\x.1.length<=20/\Au x.2:=by
 have j1:∀(n:Nat) (c:AI),n<=20->Au c->∃y,NY ((n:Int),c)=some y/\y.1.length<=20/\Au y.2:=by
  intro n c hn h;unfold NY;dsimp only;refine Hb (n:=n) (fun i (v:List AT×AI)=>(v.1,(i:Int),v.2)) (fun i v=>v.1.length<=i/\Au v.2) _ (by omega) ?_ (v:=([],c)) ⟨Nat.le_refl _,h⟩;rintro L i ⟨l,c⟩ ⟨g1,g2⟩ hi ih;dsimp only at g1 g2 ih ⊢;unfold aR Ra aQ;dsimp only;rcases Nat.lt_or_ge i n with h|h
  .obtain⟨x,ex,cx⟩:=eV g2;rw [A4 h,BE,ex,AD,BT,Av h (by omega),AO,AO];split
   .obtain⟨q,eq,hq⟩:=XL (l:=l) (by omega) (AT.mk x.1.Level x.1.AQ (w64 (100+(i:Int))) x.1.AY);rw [eq,AD];exact ih (_,_) ⟨Nat.le_trans hq (by omega),cx⟩ h
   .obtain⟨q,eq,hq⟩:=XL (l:=l) (by omega) x.1;rw [eq,AD];exact ih (_,_) ⟨Nat.le_trans hq (by omega),cx⟩ h
  .obtain rfl:i=n:=by omega
   rw [A3,A9,AO];exact⟨_,rfl,by dsimp only;omega,g2⟩
 unfold aP;obtain⟨r1,e1,a1,b1,d1,c1⟩:=Az hc 9;obtain⟨r2,e2,c2⟩:=FQ c1 12;obtain⟨r3,e3,a3,b3,d3,c3⟩:=Az c2 4;have d1:=d1 (by omega);have d3:=d3 (by omega);obtain⟨n1,h1⟩:=Int.eq_ofNat_of_zero_le a1;obtain⟨n3,h3⟩:=Int.eq_ofNat_of_zero_le a3;rw [e1,AD,e2,AD,A7];split
 .rw [e3,AD,AO,Ai (by omega) (by omega),h3,show (10:Int)+(n3:Int)=((10+n3:Nat):Int) from by omega];exact j1 _ _ (by omega) c3
 .rw [AO,h1];exact j1 _ _ (by omega) c2
theorem xu{c:AI}(hc:Au c):∃x,jx c=some x/\x.1.length<=1000/\Au x.2:=by
 have hlim:lim=268435456:=rfl;unfold jx J9;obtain⟨r1,e1,h1,c1⟩:=eW hc;obtain⟨r2,e2,_,_,_,c2⟩:=Az c1 10;obtain⟨r3,e3,c3⟩:=eV c2;rw [e1,AD,e2,AD];cases h0:(r2.1==0) with
 |true=>
  rw [BE,e3,AD,BP (by rw [Ht];omega),AO];exact⟨_,rfl,by dsimp only;rw [List.length_append,List.length_cons,List.length_nil];omega,c3⟩
 |false=>
  rw [A9];cases h01:(r2.1==1) with
  |true=>
   rw [BE,BT];split
   .rename_i hl;obtain⟨x,hx⟩:=Mk (l:=r1.1) (i:=0) (by omega) (by omega);obtain⟨y,hy⟩:=Mk (l:=r1.1) (i:=1) (by omega) (by omega);obtain⟨z,hz⟩:=Mk (l:=List.set r1.1 (Int.toNat 0) y) (i:=1) (by omega) (by rw [List.length_set];omega);simp only [hx,hy,hz,AD,AO];exact⟨_,rfl,by simp only [List.length_set];omega,c2⟩
   .rw [AO];exact⟨_,rfl,by dsimp only;omega,c2⟩
  |false=>rw [A9,AO];exact⟨_,rfl,by dsimp only;omega,c2⟩
theorem vI{c:AI}(hc:Au c):∃x,aS c=some x/\Au x.2:=by
 unfold aS NZ;obtain⟨r1,e1,_,_,_,c1⟩:=Az hc 24;obtain⟨r2,e2,_,_,_,c2⟩:=Az c1 12;obtain⟨r3,e3,_,_,_,c3⟩:=Az c2 20;obtain⟨r4,e4,c4,_⟩:=FG c3 (l:=[0,-1,-9,1000008,1000009,9223372036854775807,-9223372036854775808]) (by simp);obtain⟨r5,e5,c5,_⟩:=FG c3 (l:=[0,999,1000,-1]) (by simp);rw [e1,AD,e2,AD,e3,AD];simp only [A7,AO,e4,e5,AD]
 repeat' split
 all_goals first|exact⟨_,rfl,c4⟩|exact⟨_,rfl,c5⟩|exact⟨_,rfl,c3⟩
theorem xx{c:AI}(hc:Au c):∃x,jy c=some x/\x.1.length<=8/\Au x.2:=by
 have hlim:lim=268435456:=rfl;unfold jy;obtain⟨r1,e1,a1,_,d1,c1⟩:=Az hc 8;have d1:=d1 (by omega);obtain⟨n,hn⟩:=Int.eq_ofNat_of_zero_le a1;rw [e1,AD];refine Hb (n:=n) (fun i (v:List Ag×AI)=>(v.1,(i:Int),v.2)) (fun i v=>v.1.length<=i/\Au v.2) _ (by omega) ?_ (v:=([],r1.2)) ⟨Nat.le_refl _,c1⟩;rintro L i ⟨l,c⟩ ⟨g1,g2⟩ hi ih;dsimp only at g1 g2 ih ⊢;unfold aU aT;dsimp only;rw [hn];rcases Nat.lt_or_ge i n with h|h
 .obtain⟨x,ex,cx⟩:=vI g2;rw [A4 h,BE,ex,AD,BP (by rw [Ht];omega),Av h (by omega)];exact ih (_,_) ⟨by dsimp only;rw [List.length_append,List.length_cons,List.length_nil];omega,cx⟩ h
 .obtain rfl:i=n:=by omega
  rw [A3,A9,AO];exact⟨_,rfl,by dsimp only;omega,g2⟩
theorem pq{w:AU}(hw:w.AP.length=9)(p:Ag):(LQ w p).1.AP.length=9:=by
 unfold LQ;split
 .unfold P4;dsimp only;rw [List.length_set];exact hw
 .exact hw
theorem vP{w:AU}(hw:w.AP.flatten.length<=10)(p:Ag):(LQ w p).1.AP.flatten.length<=10:=by
 unfold LQ;split
 .rename_i h;exact(B1.1 h.2.2).few
 .exact hw
theorem eY{c:AI}(hc:Au c):∃x,aV c=some x/\CD x.1/\(x.1.AP.length=9/\x.1.AP.flatten.length<=10)/\Au x.2:=by
 have hlim:lim=268435456:=rfl;have j2:∀(l:List Ag) (c:AI),l.length<=100->Au c->∃y,Na ⟨List.replicate 9 []⟩ (l,c)=some y/\CD y.1/\(y.1.AP.length=9/\y.1.AP.flatten.length<=10)/\Au y.2:=by
  intro l c hl h;unfold Na;dsimp only;refine Hb (n:=l.length) (fun i (v:AU)=>((i:Int),v)) (fun _ v=>CD v/\v.AP.length=9/\v.AP.flatten.length<=10) _ (by omega) ?_ (v:=⟨List.replicate 9 []⟩) ⟨VT,by simp,by simp⟩;rintro L i w ⟨g1,g2⟩ hi ih;unfold aY aW;dsimp only;rcases Nat.lt_or_ge i l.length with h'|h'
  .rw [A4 h',BE,Af h',AD,AD,Hz g1,AD,Av h' (by omega)];exact ih _ ⟨fG g1 _,pq g2.1 _,vP g2.2 _⟩ h'
  .obtain rfl:i=l.length:=by omega
   rw [A3,A9,AO];exact⟨_,rfl,g1,g2,h⟩
 unfold aV;obtain⟨r2,e2,h2,c2⟩:=xx hc;obtain⟨r3,e3,c3⟩:=FQ c2 10;rw [M0,AD,e2,AD,e3,AD,A7];split
 .refine Hb (n:=10) (fun i (v:List Ag)=>(v,(i:Int))) (fun i v=>v.length<=8+i) _ (by omega) ?_ (v:=r2.1) (by omega);intro L i l g1 hi ih;unfold aX;dsimp only;rw [BT];rcases Nat.lt_or_ge i 10 with h|h
  .rw [if_pos (by omega),BP (by rw [Ht];omega),Av h (by omega)];exact ih _ (by rw [List.length_append,List.length_cons,List.length_nil];omega) h
  .rw [if_neg (by omega),AO];exact j2 _ _ (by omega) c3
 .rw [AO];exact j2 _ _ (by omega) c3
theorem xw{c:AI}(hc:Au c):∃x,jz c=some x/\CD x.1/\Au x.2:=by
 have hlim:lim=268435456:=rfl;unfold jz KA;obtain⟨r1,e1,hf,⟨h9,h10⟩,c1⟩:=eY hc;obtain⟨r2,e2,_,_,_,c2⟩:=Az c1 10;rw [e1,AD,e2,AD];cases h0:(r2.1==0) with
 |true=>
  obtain⟨r3,e3,a3,_,d3,c3⟩:=Az c2 9;have d3:=d3 (by omega);obtain⟨k,hk⟩:=Int.eq_ofNat_of_zero_le a3;have hks:k<r1.1.AP.length:=by omega
  obtain⟨r6,e6,c6⟩:=vI c3;have hsl:=Ir hks;have h2:=hf.2;have hh:Y.JF k 0 [U.sl (C.st 5) (r1.1.AP[k]++[r6.1])].length [(k,0)]:=⟨rfl,⟨Nat.le_refl _,by simp⟩,trivial⟩;have hst:=Sd hks (r1.1.AP[k]++[r6.1]);rw [BE,e3,AD,hk,Af hks,AD,AD,e6,AD,BP (by rw [Ht];omega),AD,AD,Int.toNat_natCast,BP hh,AO];refine⟨_,rfl,⟨by dsimp only;rw [List.length_set];omega,?_⟩,c6⟩;rw [List.length_append,List.length_cons,List.length_nil] at hst;show (r1.1.AP.set k (r1.1.AP[k]++[r6.1])).flatten.length<=_;omega
 |false=>
  rw [A9];cases h1:(r2.1==1) with
  |true=>
   obtain⟨r3,e3,a3,_,d3,c3⟩:=Az c2 10;have d3:=d3 (by omega);rw [BE,e3,AD,BP ⟨by omega,by omega⟩,AO];refine⟨_,rfl,⟨?_,?_⟩,c3⟩
   .dsimp only;rw [List.length_take,List.length_drop];omega
   .dsimp only;have h3:=congrArg (fun s=>s.flatten.length) (List.take_append_drop (r3.1.toNat-0) r1.1.AP);simp only [List.flatten_append,List.length_append] at h3;have:=hf.2;rw [List.drop_zero];omega
  |false=>
   rw [A9];cases h3:(r2.1==2) with
   |true=>
    rw [BE,BP (by omega),AO];refine⟨_,rfl,⟨?_,?_⟩,c2⟩
    .dsimp only;rw [List.length_append,List.length_cons,List.length_nil];omega
    .dsimp only;rw [List.flatten_append];simpa using hf.2
   |false=>rw [A9,AO];exact⟨_,rfl,hf,c2⟩
theorem vF{c:AI}(hc:Au c):∃x,j6 c=some x/\EZ x.1/\Au x.2:=by
 unfold j6 Rb;obtain⟨r1,e1,c1⟩:=FQ hc 4;rw [e1,AD,A7];split
 .obtain⟨r2,e2,c2⟩:=xv c1;obtain⟨r3,e3,h3,c3⟩:=xu c2;obtain⟨r4,e4,h4,c4⟩:=xw c3;rw [e2,AD,e3,AD,e4,AD];exact⟨_,rfl,⟨by dsimp only;omega,h4⟩,c4⟩
 .unfold rC;obtain⟨r2,e2,c2⟩:=eX c1;obtain⟨r3,e3,h3,c3⟩:=eW c2;obtain⟨r4,e4,h4,_,c4⟩:=eY c3;rw [e2,AD,e3,AD,e4,AD,AD,A7,AO,AO];split <;> exact⟨_,rfl,⟨by dsimp only;omega,h4⟩,c4⟩
theorem eM{c:AI}(hc:Au c):∃x,kN c=some x/\Ar x.1/\Au x.2/\Nk x.1:=by
 have hlim:lim=268435456:=rfl;unfold kN C0;obtain⟨h,e1,⟨b1,b2,b3,hf,b4,b5,b6,nk⟩,c1⟩:=uq hc;obtain⟨r2,e2,c2,hm⟩:=FG c1 (l:=[-1,0,1,3,1000000,1000001,1000002,9223372036854775807,-9223372036854775808]) (by simp);obtain⟨r3,e3,_,_,_,c3⟩:=Az c2 40;obtain⟨f1,f2,f3,f4,f5,f6⟩:=hf;rw [e1,AD,e2,AD,e3,AD];cases k0:(r3.1==0) with
 |true=>
  rw [BE,AO];refine⟨_,rfl,⟨f1,f2,f3,f4,f5,f6⟩,c3,?_⟩;simp only [List.mem_cons,List.not_mem_nil,or_false] at hm;unfold Nk;dsimp only;omega
 |false=>
 rw [A9];cases k1:(r3.1==1) with
 |true=>rw [BE,AO];exact⟨_,rfl,⟨f1,f2,f3,f4,f5,f6⟩,c3,nk⟩
 |false=>
 rw [A9];cases k2:(r3.1==2) with
 |true=>
  rw [BE,BP (by rw [Ht];omega),AO];exact⟨_,rfl,⟨f1,f2,f3,f4,by dsimp only;rw [List.length_append,List.length_cons,List.length_nil];omega,f6⟩,c3,nk⟩
 |false=>
 rw [A9];cases k3:(r3.1==3) with
 |true=>
  rw [BE,BP (by rw [Ht];omega),AO];exact⟨_,rfl,⟨f1,f2,f3,f4,f5,by dsimp only;rw [List.length_append,List.length_cons,List.length_nil];omega⟩,c3,nk⟩
 |false=>
 rw [A9];cases k4:(r3.1==4) with
 |true=>
  obtain⟨p,ep,cp⟩:=AAG c3 f1 h.1.Now;rw [BE,ep,AD,BP (by rw [Ht];omega),AO];exact⟨_,rfl,⟨f1,by dsimp only;rw [List.length_append,List.length_cons,List.length_nil];omega,f3,f4,f5,f6⟩,cp,nk⟩
 |false=>
 rw [A9];cases k5:(r3.1==5) with
 |true=>
  rw [BE,BT];split
  .obtain⟨x,hx⟩:=Mk (l:=h.1.AB) (i:=0) (by omega) (by omega);simp only [hx,AD,AO];exact⟨_,rfl,⟨f1,by simp only [List.length_set];exact f2,f3,f4,f5,f6⟩,c3,nk⟩
  .rw [AO];exact⟨_,rfl,⟨f1,f2,f3,f4,f5,f6⟩,c3,nk⟩
 |false=>
 rw [A9];cases k6:(r3.1==6) with
 |true=>
  rw [BE,Ai (by omega) (by omega),BP ⟨by omega,by omega⟩,AO];refine⟨_,rfl,⟨f1,f2,?_,?_,f5,f6⟩,c3,nk⟩
  .dsimp only;rw [List.length_take,List.length_drop];omega
  .intro x hx;exact f4 x (List.mem_of_mem_drop (List.mem_of_mem_take hx))
 |false=>
 rw [A9];cases k7:(r3.1==7) with
 |true=>
  obtain⟨q,eq,hq,cq⟩:=vF c3;obtain⟨x,hx⟩:=Mk (l:=h.1.AE) (i:=0) (by omega) (by omega);rw [BE,eq,AD,hx,AD,AD,AO];refine⟨_,rfl,⟨f1,f2,by simp only [List.length_set];exact f3,?_,f5,f6⟩,cq,nk⟩;intro y hy;rcases List.mem_or_eq_of_mem_set hy with hy|rfl
  .exact f4 y hy
  .exact hq
 |false=>
 rw [A9];cases k8:(r3.1==8) with
 |true=>rw [BE,AO];exact⟨_,rfl,⟨f1,f2,f3,f4,f5,f6⟩,c3,nk⟩
 |false=>
 rw [A9];cases k9:(r3.1==9) with
 |true=>
  rw [BE,BT];split
  .obtain⟨x,hx⟩:=Mk (l:=h.1.AB) (i:=0) (by omega) (by omega);obtain⟨y,hy⟩:=Mk (l:=h.1.AB) (i:=1) (by omega) (by omega);simp only [hx,hy,AD,AO];exact⟨_,rfl,⟨f1,by simp only [List.length_set];exact f2,f3,f4,f5,f6⟩,c3,nk⟩
  .rw [AO];exact⟨_,rfl,⟨f1,f2,f3,f4,f5,f6⟩,c3,nk⟩
 |false=>rw [A9,AO];exact⟨_,rfl,⟨f1,f2,f3,f4,f5,f6⟩,c3,nk⟩
end Lv.P
