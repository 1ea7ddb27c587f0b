/-
  Plain laws: what is drawn is there: cursors, rules, parties, right houses; the law 21.
-/
import Derived.Test.YtffakkimlookoaaGreatPG
set_option linter.unusedVariables false
set_option linter.unusedSimpArgs false
set_option linter.unusedSectionVars false
namespace Lv.P
open Lv Go
theorem qC(a:Int):0<=SG a 255/\SG a 255<=255:=by
 unfold SG;have e:(BitVec.ofInt IntKind.i64.bits 255).toNat=255:=rfl;rw [BitVec.toNat_and,e];have:(BitVec.ofInt IntKind.i64.bits a).toNat &&& 255<=255:=Nat.and_le_right;rw [M1 (by omega) (by omega)];omega
theorem VN(s:List UInt8):db s=some (decide ((s.length:Int)>1048576)):=rfl
def BF(c:AH):Prop:=0<=c.i_/\c.i_<=c.b_.length/\c.b_.length<=1048576
theorem yu{s:List UInt8}(hs:s.length<=1048576):∃c,de s=some c/\BF c:=by
 unfold de;refine E9 (n:=s.length) (fun i (v:Int)=>(v,(i:Int))) (fun _ _=>True) BF (by omega) ?_ trivial;intro L i v _ hi ih;unfold dh TZ dg;dsimp only;simp only [AG,dec_lt];rcases Nat.lt_or_ge i s.length with h|h
 .rw [decide_eq_true h,Ab,AV,AX h,AA,Ag h (by omega)];split
  .exact ih _ trivial h
  .exact⟨_,rfl,by simp,by simp,hs⟩
 .rw [decide_eq_false (by omega),Ad,Ad];exact⟨_,rfl,by simp,by simp,hs⟩
theorem iL{c:AH}(hc:BF c):∃r,Re c=some r/\0<=r.1/\r.1<=255/\BF r.2:=by
 obtain⟨h0,h1,h2⟩:=hc;unfold Re Ta;rw [AV];obtain⟨i,hi⟩:=Int.eq_ofNat_of_zero_le h0;split
 .rename_i h;rw [hi,AX (by omega),AA,AG];have:=qC (w64 (SG (NA (BE (w64 (w64 (c.h_*6364136223846793005)+1442695040888963407)) 33) (BE (w64 (w64 (c.h_*6364136223846793005)+1442695040888963407)) 45)) 255+w64 (↑(UInt8.toNat c.b_[i]):Int)));refine⟨_,rfl,this.1,this.2,?_⟩;rw [AP (n:=(i:Int)+1) (by omega) (by omega)];exact⟨by dsimp only;omega,by dsimp only;omega,h2⟩
 .rw [AG];have:=qC (NA (BE (w64 (w64 (c.h_*6364136223846793005)+1442695040888963407)) 33) (BE (w64 (w64 (c.h_*6364136223846793005)+1442695040888963407)) 45));exact⟨_,rfl,this.1,this.2,h0,h1,h2⟩
theorem FZ{a n:Int}(ha:0<=a)(hn:0<n):0<=Int.tmod a n/\Int.tmod a n<n:=by
 rw [Int.tmod_eq_emod_of_nonneg ha];exact⟨Int.emod_nonneg _ (by omega),Int.emod_lt_of_pos _ hn⟩
theorem A5{c:AH}(hc:BF c)(n:Int):∃r,A3 c n=some r/\0<=r.1/\(n<=0->r.1=0)/\(0<n->r.1<n)/\BF r.2:=by
 unfold A3;rw [AV];by_cases h0:n<=0
 .rw [if_pos h0];exact⟨_,rfl,by simp,by simp,by omega,hc⟩
 rw [if_neg h0,AV];split
 .obtain⟨r,e,h1,h2,h3⟩:=iL hc;rw [e,AA,A1 (by omega)];have:=FZ h1 (show 0<n by omega);exact⟨_,rfl,this.1,by omega,fun _=>this.2,h3⟩
 .obtain⟨r1,e1,a1,b1,c1⟩:=iL hc;obtain⟨r2,e2,a2,b2,c2⟩:=iL c1;obtain⟨r3,e3,a3,b3,c3⟩:=iL c2;obtain⟨r4,e4,a4,b4,c4⟩:=iL c3;rw [e1,AA,e2,AA,e3,AA,e4,AA,A1 (by omega)];rw [AP (n:=r1.1*16777216) (by omega) (by omega),AP (n:=r2.1*65536) (by omega) (by omega),AP (n:=r3.1*256) (by omega) (by omega)];rw [AP (n:=r1.1*16777216+r2.1*65536) (by omega) (by omega),AP (n:=r1.1*16777216+r2.1*65536+r3.1*256) (by omega) (by omega),AP (n:=r1.1*16777216+r2.1*65536+r3.1*256+r4.1) (by omega) (by omega)];have:=FZ (a:=r1.1*16777216+r2.1*65536+r3.1*256+r4.1) (by omega) (show 0<n by omega);exact⟨_,rfl,this.1,by omega,fun _=>this.2,c4⟩
theorem QK{c:AH}(hc:BF c)(n:Int):∃r,KN c n=some r/\BF r.2:=by
 obtain⟨r,e,_,_,_,h⟩:=A5 hc n;unfold KN;rw [e,AA];exact⟨_,rfl,h⟩
theorem E4{c:AH}(hc:BF c){l:List Int}(hl:l≠[]):∃r,KO c l=some r/\BF r.2/\r.1∈l:=by
 unfold KO;have hp:0<l.length:=by cases l with|nil=>exact absurd rfl hl|cons=>simp
 obtain⟨r,e,h1,h2,h3,h4⟩:=A5 hc (l.length:Int);obtain⟨k,hk⟩:=Int.eq_ofNat_of_zero_le h1;have:=h3 (by omega);rw [e,AA,hk,AX (by omega),AA];exact⟨_,rfl,h4,List.getElem_mem _⟩
theorem yC{c:AH}(hc:BF c):∃r,mH c=some r/\r.1.AM.length<=3/\Bt r.1=true/\BF r.2:=by
 unfold mH;obtain⟨r1,e1,a1,b1,d1,c1⟩:=A5 hc 5;obtain⟨r2,e2,a2,b2,d2,c2⟩:=A5 c1 9;obtain⟨r3,e3,a3,b3,d3,c3⟩:=A5 c2 6;obtain⟨r4,e4,a4,b4,d4,c4⟩:=A5 c3 5;obtain⟨r5,e5,a5,b5,d5,c5⟩:=A5 c4 4;obtain⟨r6,e6,a6,b6,d6,c6⟩:=A5 c5 4;obtain⟨r7,e7,a7,b7,d7,c7⟩:=A5 c6 4;obtain⟨r8,e8,a8,b8,d8,c8⟩:=A5 c7 3;obtain⟨r9,e9,a9,b9,d9,c9⟩:=A5 c8 3;simp only [e1,e2,e3,e4,e5,e6,e7,e8,e9,AA];have d1:=d1 (by omega);have d2:=d2 (by omega);have d3:=d3 (by omega);have d4:=d4 (by omega);have d5:=d5 (by omega);have d6:=d6 (by omega);have d7:=d7 (by omega);have d8:=d8 (by omega);have h9:=d9 (by omega);obtain⟨n,hn⟩:=Int.eq_ofNat_of_zero_le (show 0<=1+r9.1 by omega);refine E9 (n:=n) (fun i (v:AH×AO)=>((i:Int),v.1,v.2)) (fun i v=>BF v.1/\∃ss:List Int,v.2=⟨ss,w64 (1+r1.1),w64 (2+r2.1),w64 (1+r3.1),w64 (1+r4.1),w64 (1+r5.1),r6.1,w64 (1+r7.1),w64 (1+r8.1)⟩/\ss.length=i/\∀x∈ss,2<=x/\x<=13) _ (by omega) ?_ (v:=(r9.2,_)) ⟨c9,[],rfl,rfl,by simp⟩;rintro L i ⟨c,r⟩ ⟨hc,ss,hr,hs,hx⟩ hi ih;unfold dj di;dsimp only at hc hr ih ⊢;subst hr;rw [AP (n:=1+r9.1) (by omega) (by omega),hn,dec_lt];rcases Nat.lt_or_ge i n with h|h
 .obtain⟨y,e1,a1,b1,d1,c1⟩:=A5 hc 12;have d1:=d1 (by omega);rw [decide_eq_true h,Ab,e1,AA,A1 (by simp only [List.length_cons,List.length_nil];unfold lim;omega),Ag h (by omega)];refine ih (_,_) ⟨c1,_,rfl,by simp [hs],?_⟩ h;intro x hxm;rcases List.mem_append.1 hxm with hxm|hxm
  .exact hx x hxm
  .rw [List.mem_singleton.1 hxm,AP (by omega) (by omega)];omega
 .rw [decide_eq_false (by omega),Ad,AG];refine⟨_,rfl,by dsimp only;omega,?_,hc⟩;unfold Bt;simp only [Bool.and_eq_true,Bp,List.all_eq_true];rw [AP (n:=1+r1.1) (by omega) (by omega),AP (n:=2+r2.1) (by omega) (by omega),AP (n:=1+r3.1) (by omega) (by omega),AP (n:=1+r4.1) (by omega) (by omega),AP (n:=1+r5.1) (by omega) (by omega),AP (n:=1+r7.1) (by omega) (by omega),AP (n:=1+r8.1) (by omega) (by omega)];refine⟨by omega,by omega,by omega,by omega,by omega,fun x hxm=>by have:=hx x hxm;omega,by omega,by omega,by omega,by omega⟩
def tu(r:AO)(n:Nat)(h:AF):Prop:=h.AR.length<=h.AS.AM.length/\h.AR.length<=r.AM.length/\h.AS.AM.length<=1048576/\h.AE.length<=n/\h.A7.length<=n/\h.BC.length<=3/\(∀c∈h.AR,CW c)/\1<=h.AR.length
theorem pc{r:AO}(hr:r.AM.length<=3)(hb:Bt r=true):∃x,eF r=some x/\tu r 0 x.1:=by
 have hf:=Zu (r:=r) (by omega);have hk:=BT hb;refine⟨_,ju (by omega),?_⟩;unfold tu;refine⟨?_,?_,hf.E2,?_,?_,?_,hf.QZ,?_⟩ <;> (unfold LY;rw [if_pos hb]) <;> simp <;> omega
theorem tX(l:List AI)(hl:l.length<2 ^ 62)(n:Int):∃i,eU l n=some i/\(i<0\/∃k:Nat,i=k/\k<l.length):=by
 unfold eU;refine E9 (n:=l.length) (fun i (_:Unit)=>(i:Int)) (fun _ _=>True) _ (by omega) ?_ (v:=()) trivial;intro L i _ _ hi ih;unfold eW eV;rw [dec_lt];rcases Nat.lt_or_ge i l.length with h|h
 .rw [decide_eq_true h,Ab,AX h,AA,Bu,Ag h (by omega)];split
  .exact⟨_,rfl,.inr ⟨i,rfl,h⟩⟩
  .exact ih () trivial h
 .rw [decide_eq_false (by omega),Ad,AG];exact⟨_,rfl,.inl (by omega)⟩
theorem iO{c:AH}(hc:BF c)(r:AO)(now:Int):∃x,eT c r now=some x/\BF x.2:=by
 obtain⟨r1,e1,a1,b1,d1,c1⟩:=A5 hc 12;obtain⟨r2,e2,a2,b2,d2,c2⟩:=A5 c1 (r.AM.length:Int);obtain⟨r3,e3,a3,b3,d3,c3⟩:=A5 c2 r.As;obtain⟨r4,e4,a4,b4,d4,c4⟩:=A5 c3 r.BG;obtain⟨r5,e5,a5,b5,d5,c5⟩:=A5 c4 40;obtain⟨r6,e6,a6,b6,d6,c6⟩:=A5 c5 r.BA;have j3:∀x:AH×AI,BF x.1->∃y,UD x=some y/\BF y.2:=by
  rintro⟨c,p⟩ h;exact⟨_,rfl,h⟩
 have j2:∀x:AH×AI,BF x.1->∃y,Kw r x=some y/\BF y.2:=by
  rintro⟨c,p⟩ h;unfold Kw;obtain⟨o,eo,ho⟩:=QK h 4;dsimp only;rw [eo,AA,Bu,AG];split
  .obtain⟨q,eq,_,_,_,hq⟩:=A5 ho (r.AM.length:Int);rw [eq,AA,AG];exact j3 _ hq
  .exact j3 _ ho
 have j1:∀x:AH×AI,BF x.1->∃y,PQ r now x=some y/\BF y.2:=by
  rintro⟨c,p⟩ h;unfold PQ;obtain⟨o,eo,ho⟩:=QK h 3;dsimp only;rw [eo,AA,Bu,AG];split
  .obtain⟨q,eq,_,_,_,hq⟩:=A5 ho (w64 (now+r.Ax));rw [eq,AA,AG];exact j2 _ hq
  .exact j2 _ ho
 unfold eT;simp only [e1,e2,e3,e4,e5,e6,AA,Bj,K2,K3,K4,K5,K6,K7,K8,KE,KF,FB,Bu,AG];split
 .obtain⟨q,eq,_,_,_,hq⟩:=A5 c6 (w64 (now+1));obtain⟨o,eo,ho⟩:=QK hq 3;rw [eq,AA,eo,AA];split
  .obtain⟨q',eq',_,_,_,hq'⟩:=A5 ho (w64 (w64 (now+r.Rest)+1));rw [eq',AA];exact j1 _ hq'
  .exact j1 _ ho
 .exact j2 _ c6
theorem tY{h:AF}{p:AI}(h1:h.AE.length<=1000)(h2:h.AR.length<=h.AS.AM.length)(h3:h.AS.AM.length<=1048576):∃b,mY h p=some b:=by
 unfold mY;simp only [List.nil_append,Bj,K2,K3,K4,K5,K6,K7,K8,KE,KF];have hl:(h.AE).length=h.AE.length:=by simp
 rw [A1 (by unfold lim;omega),A1 (by simp only [List.length_cons,List.length_nil];unfold lim;omega),A1 (by unfold lim;omega),A1 (by simp only [List.length_cons,List.length_nil];unfold lim;omega),A1 (by unfold lim;omega),A1 (by simp only [List.length_cons,List.length_nil];unfold lim;omega)];obtain⟨r,h,_⟩:=E9 (F:=UE h p) (n:=h.AR.length) (fun i (_:Unit)=>(i:Int)) (fun _ _=>True) (fun _=>True) (by omega) (by
  intro L i v _ hi ih;unfold UE eX;rw [dec_lt];rcases Nat.lt_or_ge i h.AR.length with g|g
  .have ea:=H7 (l:=[]++h.AE++[p]) (by simp;omega) (i:Int);have eb:=H8 (l:=[]++h.AE++[p]) (by simp;omega) (i:Int);rw [decide_eq_true g,Ab,AX (show i<h.AS.AM.length by omega),AA,ea,AA,eb,AA,Bu,Ag g (by omega)];split
   .exact⟨_,rfl,trivial⟩
   .exact ih () trivial g
  .rw [decide_eq_false (by omega),Ad,AG];exact⟨_,rfl,trivial⟩) (v:=()) trivial
 exact⟨r,h⟩
theorem pd{l:List AI}(hl:l.length<=1000)(p:AI):∃r,mZ l p=some r/\r.length<=l.length+1:=by
 unfold mZ;obtain⟨i,ei,hi⟩:=tX l (by omega) p.Id;rw [ei,AA,A1 (by unfold lim;omega),AV];split
 .rcases hi with hi|⟨k,rfl,hk⟩
  .omega
  .rw [List.nil_append,AX hk,AA,AA];exact⟨_,rfl,by simp⟩
 .refine E9 (n:=l.length) (fun i (_:Unit)=>(i:Int)) (fun _ _=>True) _ (by omega) ?_ (v:=()) trivial;intro L i _ _ hi ih;have hj:∃r,UG l p (i:Int)=some r/\r.length<=l.length+1:=by
   unfold UG;simp only [Bj,K2,K3,K4,K5,K6,K7,K8,KE,KF,List.nil_append,Int.toNat_natCast];have ht:(l.take i).length<=l.length:=by rw [List.length_take];omega
   rw [A1 (by omega),A1 (by unfold lim;omega),A1 (by simp only [List.length_cons,List.length_nil];unfold lim;omega),A1 (by unfold lim;omega),A1 (by simp only [List.length_cons,List.length_nil];unfold lim;omega),A1 (by unfold lim;omega),A1 (by simp only [List.length_cons,List.length_nil];unfold lim;omega),A1 (by omega)];rw [A1 (by simp only [List.length_append,List.length_cons,List.length_nil,List.length_drop];unfold lim;omega)];exact⟨_,rfl,by simp only [List.length_append,List.length_cons,List.length_nil,List.length_drop,List.length_take];omega⟩
  unfold eY UF;rw [dec_lt];rcases Nat.lt_or_ge i l.length with h|h
  .rw [decide_eq_true h,Ab,AX h,AA,AG,AV,Ag h (by omega),AG];split
   .exact ih () trivial h
   .exact hj
  .rw [decide_eq_false (by omega),Ad,AG,Ad,AG];exact hj
theorem yt{r:AO}(hr:r.AM.length<2 ^ 62){l:List AI}(hl:l.length<=400){k:Nat}(hk:k<r.AM.length)(now x:Int):∃c,ma r l k now x=some c/\CW c:=by
 unfold ma;obtain⟨ps,ep,hp⟩:∃ps,jF l (k:Int)=some ps/\ps.length<=400:=⟨_,ML (by omega) _,by unfold KR;rw [EX];have:=List.length_filterMap_le (OT (k:Int)) l;omega⟩;rw [J3,AA,ep,AA];obtain⟨c,hc,hc2⟩:=E9 (F:=UJ r l (k:Int) now x ps) (n:=ps.length) (fun i (v:AK)=>((i:Int),v)) (fun i v=>BU v) (fun c=>CW c) (by omega) (by
  intro L i v hv hi ih;unfold UJ eZ;dsimp only;rw [dec_lt];rcases Nat.lt_or_ge i ps.length with h|h
  .have ey:=IT hv ps[i];have hy:=QO hv ps[i];rw [decide_eq_true h,Ab,AX h,AA,AA,ey,AA,Ag h (by omega)];exact ih _ hy h
  .have ea:=H7 (l:=l) (by omega) (k:Int);have eb:=H8 (l:=l) (by omega) (k:Int);have eq:=KB hr (l:=l) (by omega) (k:Int) now;rw [decide_eq_false (by omega),Ad,AG,ea,AA,eb,AA,AX hk,AA,Pt,AA,eq,AA];refine⟨_,rfl,?_,hv⟩;dsimp only;unfold HR;rw [EX];have:=List.length_filterMap_le (M7 r (k:Int) now) l;omega) (v:=⟨List.replicate 9 []⟩) KH
 exact⟨c,hc,hc2⟩
theorem tP{l:List Int}(hl:l.length<=1048576)(n:Int):∃r,mb l n=some r/\r.length<=l.length+1:=by
 unfold mb;have eb:=XD (l:=l) (by omega) n;rw [A1 (by unfold lim;omega),eb,AA,Bu];simp only [List.nil_append];split
 .exact⟨_,rfl,by omega⟩
 .rw [A1 (by simp only [List.length_cons,List.length_nil];unfold lim;omega)];exact⟨_,rfl,by simp⟩
def bm(h:AF):Prop:=h.AE.length<=400/\h.AR.length<=1000/\h.AS.AM.length<=1048576/\BO h/\1<=h.AR.length/\h.A7.length<=2000/\h.BC.length<=1000
theorem kr{c:AH}(hc:BF c):∃x,X7 c=some x/\bm x.1/\BF x.2:=by
 unfold X7;obtain⟨r,er,hr,hrb,cr⟩:=yC hc;obtain⟨h,eh,hh⟩:=pc hr hrb;obtain⟨a,ea,a1,a2,a3,ca⟩:=A5 cr 20;obtain⟨b,eb,b1,b2,b3,cb⟩:=A5 ca 9;have hb:=b3 (by omega);rw [er,AA,eh,AA,ea,AA,eb,AA];obtain⟨n,hn⟩:=Int.eq_ofNat_of_zero_le b1;have post:∀x:AH×AF,BF x.1->tu r.1 100 x.2->∃y,UL r x=some y/\bm y.1/\BF y.2:=by
  rintro⟨c,h⟩ hc hh;unfold UL;dsimp only at hc hh ⊢;have hcn:=hh.2.1;refine E9 (n:=h.AR.length) (fun i (v:AH×AF)=>((i:Int),v.1,v.2)) (fun i v=>BF v.1/\v.2.AR.length=h.AR.length/\v.2.AE.length<=100/\v.2.A7.length<=100+i/\v.2.AS.AM.length<=1048576/\v.2.BC.length<=3/\∀c∈v.2.AR,CW c) _ (by omega) ?_ (v:=(c,h)) ⟨hc,rfl,hh.2.2.2.1,by dsimp only;have:=hh.2.2.2.2.1;omega,hh.2.2.1,hh.2.2.2.2.2.1,hh.2.2.2.2.2.2.1⟩;rintro L i ⟨c,h'⟩ ⟨g1,g2,g3,g4,g5,g6,g7⟩ hi ih;dsimp only at g1 g2 g3 g4 g5 g6 g7 ih ⊢;unfold eu UM ee;dsimp only;rw [g2,dec_lt];rcases Nat.lt_or_ge i h.AR.length with g|g
  .obtain⟨x,ex,_,_,_,cx⟩:=A5 g1 6;obtain⟨m,em,hm⟩:=yt (r:=r.1) (by omega) (l:=h'.AE) (by omega) (k:=i) (by omega) h'.Now x.1;obtain⟨o,eo,co⟩:=QK cx 2;obtain⟨t,et,ht⟩:=tP (l:=h'.A7) (by omega) (i:Int);rw [decide_eq_true g,Ab,ex,AA,em,AA,AX (by omega),AA,AA,eo,AA,Bu,et,AA,AG,AG,Ag g (by omega)];split
   .exact ih (_,_) ⟨co,by simp [g2],g3,by dsimp only;omega,g5,g6,fun c hc=>by
     rcases List.mem_or_eq_of_mem_set hc with hc|rfl
     .exact g7 c hc
     .exact hm⟩ g
   .exact ih (_,_) ⟨co,by simp [g2],g3,by dsimp only;omega,g5,g6,fun c hc=>by
     rcases List.mem_or_eq_of_mem_set hc with hc|rfl
     .exact g7 c hc
     .exact hm⟩ g
  .rw [decide_eq_false (by omega),Ad,AG];refine E9 (n:=h'.BC.length) (fun j (v:AH×AF)=>((j:Int),v.1,v.2)) (fun j v=>BF v.1/\v.2.BC.length=h'.BC.length/\bm v.2) _ (by omega) ?_ (v:=(c,h')) ⟨g1,rfl,by dsimp only;omega,by dsimp only;omega,g5,⟨g5,by dsimp only;omega,by dsimp only;omega,g7,by dsimp only;omega,by dsimp only;omega⟩,by have:=hh.2.2.2.2.2.2.2;dsimp only;omega,by dsimp only;omega,by dsimp only;omega⟩;rintro L j ⟨c,h2⟩ ⟨k1,k2,k3⟩ hj ih;dsimp only at k1 k2 k3 ih ⊢;unfold ez Qp X8;dsimp only;rw [k2,dec_lt];rcases Nat.lt_or_ge j h'.BC.length with k|k
   .obtain⟨o,eo,co⟩:=QK k1 3;obtain⟨x,ex,_,_,_,cx⟩:=A5 co (r.1.AM.length:Int);rw [decide_eq_true k,Ab,eo,AA,Bu,ex,AA,AX (by omega),AA,AA,AG,AG,Ag k (by omega)];split
    .exact ih (_,_) ⟨cx,by simp [k2],k3.1,k3.2.1,k3.2.2.1,⟨k3.2.2.2.1.E2,k3.2.2.2.1.Du,k3.2.2.2.1.MA,k3.2.2.2.1.QZ,k3.2.2.2.1.todo,by simp only [List.length_set];exact k3.2.2.2.1.jY⟩,k3.2.2.2.2.1,k3.2.2.2.2.2.1,by simp only [List.length_set];exact k3.2.2.2.2.2.2⟩ k
    .exact ih (_,_) ⟨co,k2,k3⟩ k
   .rw [decide_eq_false (by omega),Ad,AG];exact⟨_,rfl,k3,k1⟩
 refine E9 (n:=n) (fun i (v:Int×AH×AF)=>(v.1,(i:Int),v.2.1,v.2.2)) (fun i v=>BF v.2.1/\tu r.1 i v.2.2) _ (by omega) ?_ (v:=(0,b.2,_)) ⟨cb,hh⟩;rintro L i ⟨t,c,h⟩ ⟨g1,g2⟩ hi ih;dsimp only at g1 g2 ih ⊢;obtain⟨k1,k2,k3,k4,k5,k6,k7⟩:=g2;unfold eg;dsimp only;rw [hn,dec_lt];rcases Nat.lt_or_ge i n with g|g
 .obtain⟨p,ep,cp⟩:=iO g1 r.1 h.Now;obtain⟨x1,e1,_,_,_,c1⟩:=A5 cp 12;obtain⟨x2,e2,_,_,_,c2⟩:=A5 c1 2;obtain⟨x3,e3,_,_,_,c3⟩:=A5 c2 4;rw [decide_eq_true g,Ab,ep,AA,e1,AA,e2,AA,e3,AA,rr,AA,Bu,AG,AG];have j3:∀(q:AI) (b:Bool),∃y,Kx L t (i:Int) h x3 q b=some y/\bm y.1/\BF y.2:=by
   intro q b;unfold Kx UK;obtain⟨l,el,hl⟩:=pd (l:=h.AE) (by omega) q;rw [Bu,AG,el,AA,AG,Ag g (by omega)];split
   .exact ih (_,_,_) ⟨c3,k1,k2,k3,by dsimp only;omega,by dsimp only;omega,k6,k7⟩ g
   .exact ih (_,_,_) ⟨c3,k1,k2,k3,by dsimp only;omega,by dsimp only;omega,k6,k7⟩ g
  have j2:∀q:AI,∃y,PR r L t (i:Int) h x3 q=some y/\bm y.1/\BF y.2:=by
   intro q;unfold PR;obtain⟨a,ea,_⟩:=tX h.AE (by omega) q.Id;have eb:=QG (l:=h.AE) (by omega) q.A4;obtain⟨d,ed⟩:=tY (h:=h) (p:=q) (by omega) k1 k3;simp only [ea,eb,ed,AA,Bu,AG]
   repeat' split
   all_goals exact j3 _ _
  split <;> exact j2 _
 .rw [decide_eq_false (by omega),Ad,AG];exact post _ g1 ⟨k1,k2,k3,by dsimp only;omega,by dsimp only;omega,k6,k7⟩
theorem bY{s:List UInt8}(hs:s.length<=1048576):∃l,mc s=some l/\l.length<=1048576:=by
 unfold mc;obtain⟨c,e1,h1⟩:=yu hs;obtain⟨h,e2,h2,h3⟩:=kr h1;obtain⟨x,e3,h4,_⟩:=E4 h3 (l:=[-1,0,1,2,5,41,1000001,9223372036854775807,-9223372036854775808]) (by simp);obtain⟨k,e4,a1,a2,a3,h5⟩:=A5 h4 6;have hn:=RE (h:=h.1);have hlim:lim=268435456:=rfl;unfold Ir;rw [e1,AA,e2,AA,XB h2.2.2.2.1,AA,e3,AA,e4,AA];obtain⟨m,hm⟩:=Int.eq_ofNat_of_zero_le a1;cases c1:(k.1==0) with
 |true=>
  rw [Ab,AV];split
  .rename_i hp;obtain⟨y,e5,b1,b2,b3,_⟩:=A5 h5 ((I8 h.1).length:Int);have b3:=b3 (by omega);obtain⟨j,hj⟩:=Int.eq_ofNat_of_zero_le b1;rw [e5,AA,hj,AX (by omega),AA,AA,AG];exact⟨_,rfl,by rw [List.length_set];omega⟩
  .rw [AG];exact⟨_,rfl,by omega⟩
 |false=>
  rw [Ad];cases c2:(k.1==1) with
  |true=>
   rw [Ab,AP (by omega) (by omega)];obtain⟨y,e5,b1,b2,b3,_⟩:=A5 h5 ((I8 h.1).length+1:Int);have b3:=b3 (by omega);rw [e5,AA,A1 ⟨by omega,by omega⟩,AG];exact⟨_,rfl,by rw [List.length_take,List.length_drop];omega⟩
  |false=>
   rw [Ad];cases c3:(k.1==2) with
   |true=>
    rw [Ab,A1 (by rw [DC];omega),AG];exact⟨_,rfl,by rw [List.length_append,List.length_cons,List.length_nil];omega⟩
   |false=>rw [Ad,AG];exact⟨_,rfl,by omega⟩
theorem ic{s:List UInt8}(_:okL okT s):Fc s=some true:=by
 unfold Fc Bv;rw [VN,AA,AV];split
 .rfl
 obtain⟨l,e1,hl⟩:=bY (s:=s) (by omega);obtain⟨r,e2,e3,h1,h2⟩:=bn hl;have hb:∀b:Bool,(b==b)=true:=by intro b;cases b <;> rfl
 rw [e1,AA,e2,AA,e3,AA,hb,Ai,Ab];cases hr:r.2 with
 |true=>
  obtain⟨g1,g2,g3⟩:=h1 hr;simp only [Ai,Ab,g1,g2,g3,AA,AG]
 |false=>
  rw [h2 hr,Ai,Ad];rw [show ((([]:List Am).length:Int)==0)=true from rfl,Ab,AG]
end Lv.P
namespace Lv.P
open Lv Go
theorem KI{a b c:Nat}(h:a ^^^ c=b ^^^ c):a=b:=by
 have:=congrArg (· ^^^ c) h;simpa only [Nat.xor_assoc,Nat.xor_self,Nat.xor_zero] using this
theorem jA{v w:Nat}(hv:v<2 ^ 32)(hw:w<2 ^ 32)(h:JY v=JY w):v=w:=by
 have key:∀a b,a<2 ^ 31->b<2 ^ 31->a ^^^ 3988292384=b->False:=by
  intro a b ha hb e;have h1:(a ^^^ 3988292384).testBit 31=true:=by
   rw [Nat.testBit_xor,Nat.testBit_lt_two_pow ha];rfl
  rw [e,Nat.testBit_lt_two_pow hb] at h1;cases h1
 unfold JY at h;split at h <;> split at h
 .have:=KI h;omega
 .exact(key _ _ (by omega) (by omega) h).elim
 .exact(key _ _ (by omega) (by omega) h.symm).elim
 .omega
theorem Ke:∀k {v w:Nat},v<2 ^ 32->w<2 ^ 32->JZ k v=JZ k w->v=w
 |0,_,_,_,_,h=>h
 |k+1,v,w,hv,hw,h=>jA hv hw (Ke k (MT hv) (MT hw) h)
theorem RZ:∀(l:List UInt8) {v w:Nat},v<2 ^ 32->w<2 ^ 32->Fb v l=Fb w l->v=w
 | [],_,_,_,_,h=>h
 |x::l,v,w,hv,hw,h=>by
  have hx:x.toNat<2 ^ 32:=by have:=x.toNat_lt;omega
  have h1:=RZ l (De 8 (Nat.xor_lt_two_pow hv hx)) (De 8 (Nat.xor_lt_two_pow hw hx)) h;exact KI (Ke 8 (Nat.xor_lt_two_pow hv hx) (Nat.xor_lt_two_pow hw hx) h1)
theorem Ra:∀(l:List UInt8) {v:Nat} (k:Nat) (y:UInt8) (hk:k<l.length),v<2 ^ 32->Fb v (l.set k y)=Fb v l->y=l[k]
 | [],_,_,_,hk,_,_=>by simp at hk
 |x::l,v,0,y,hk,hv,h=>by
  have hx:x.toNat<2 ^ 32:=by have:=x.toNat_lt;omega
  have hy:y.toNat<2 ^ 32:=by have:=y.toNat_lt;omega
  have h1:=RZ l (De 8 (Nat.xor_lt_two_pow hv hy)) (De 8 (Nat.xor_lt_two_pow hv hx)) h;have h2:=Ke 8 (Nat.xor_lt_two_pow hv hy) (Nat.xor_lt_two_pow hv hx) h1;rw [Nat.xor_comm v,Nat.xor_comm v] at h2;exact UInt8.toNat_inj.1 (KI h2)
 |x::l,v,k+1,y,hk,hv,h=>by
  have hx:x.toNat<2 ^ 32:=by have:=x.toNat_lt;omega
  exact Ra l k y (by simpa using hk) (De 8 (Nat.xor_lt_two_pow hv hx)) h
theorem oS{l:List UInt8}{k:Nat}{y:UInt8}(hk:k<l.length)(h:Gq (l.set k y)=Gq l):y=l[k]:=
 Ra l k y hk (by omega) (KI h)
theorem Sq(n:Int):((toB n).toNat:Int)=n % 256:=by
 have h:=SF n;have e:IntKind.u8.wrap n=n % 256:=by
  have hh:IntKind.u8.wrap n=n % 2 ^ 8:=by simp [IntKind.wrap,IntKind.signed,IntKind.bits]
  rw [hh];rfl
 unfold toB;rw [e] at h ⊢;rw [UInt8.toNat_ofNat'];omega
theorem Mw(a:Nat)(k:Nat)(hk:k<=63):BE (a:Int) (k:Int)=((a / 2 ^ k:Nat):Int):=by
 unfold BE;have e:min ((k:Int)).toNat IntKind.i64.bits=k:=by simp [IntKind.bits];omega
 rw [e,Int.fdiv_eq_ediv_of_nonneg _ (Int.le_of_lt (Int.pow_pos (by omega)))];rw [Int.natCast_ediv];rfl
theorem rY{a b:Nat}(ha:a<2 ^ 32)(hb:b<2 ^ 32)(h:four (a:Int)=four (b:Int)):a=b:=by
 unfold four at h;simp only [List.cons.injEq,and_true] at h;obtain⟨h1,h2,h3,h4⟩:=h;have g:∀{x y:Int},toB x=toB y->x % 256=y % 256:=fun {x y} e=>by rw [<-Sq,<-Sq,e]
 have h1:=g h1;have h2:=g h2;have h3:=g h3;have h4:=g h4;rw [show (24:Int)=((24:Nat):Int) from rfl,Mw a 24 (by omega),Mw b 24 (by omega)] at h1;rw [show (16:Int)=((16:Nat):Int) from rfl,Mw a 16 (by omega),Mw b 16 (by omega)] at h2;rw [show (8:Int)=((8:Nat):Int) from rfl,Mw a 8 (by omega),Mw b 8 (by omega)] at h3;omega
theorem su{n m:Int}(hn:okN n)(hm:okN m){x y:List UInt8}(h:pN n++x=pN m++y):n=m/\x=y:=by
 have h1:=kX hn x;rw [h,kX hm y] at h1;simp only [Option.some.injEq,Prod.mk.injEq] at h1;have hnm:n=m:=by have:=hn.1;have:=hm.1;omega
 subst hnm;exact⟨rfl,List.append_cancel_left h⟩
theorem gb:∀{l' l:List Int} {t:List UInt8},(∀n∈l',okN n)->(∀n∈l,okN n)->pL l'++t=pL l->∃r,l=l'++r/\t=pL r
 | [],l,t,_,_,h=>⟨l,rfl,h⟩
 |n::l',[],t,h1,_,h=>by
  have:=kT (h1 n (List.mem_cons_self ..));have e:pL (n::l')=pN n++pL l':=rfl;rw [e] at h;have:=congrArg List.length h;simp only [List.length_append] at this;have e2:(pL []).length=0:=rfl;omega
 |n::l',m::l,t,h1,h2,h=>by
  have e:pL (n::l')=pN n++pL l':=rfl;have e2:pL (m::l)=pN m++pL l:=rfl;rw [e,e2,List.append_assoc] at h;obtain⟨q1,q2⟩:=su (h1 n (List.mem_cons_self ..)) (h2 m (List.mem_cons_self ..)) h;obtain⟨r,q3,q4⟩:=gb (fun k hk=>h1 k (List.mem_cons_of_mem _ hk)) (fun k hk=>h2 k (List.mem_cons_of_mem _ hk)) q2;exact⟨r,by rw [q1,q3];rfl,q4⟩
theorem sQ{h:AF}(hb:Bl h=true):∀n∈BX h,okN n:=by
 have hr:=Hh hb;have hk:=EU hb;have hR:=BT hr.rules;have hlen:=FV h.AS;rw [I9];intro n hn;unfold okN;simp only [List.mem_cons,List.mem_append,List.mem_flatMap,List.mem_map] at hn;rcases hn with rfl|hn|rfl|rfl|rfl|⟨p,hp,hn⟩|⟨c,hc,rfl⟩|rfl|hn|⟨j,hj,rfl⟩
 .omega
 .unfold Dm at hn;simp only [List.mem_cons,List.mem_append,List.not_mem_nil,or_false] at hn;rcases hn with (rfl|rfl|rfl|rfl|rfl|rfl|rfl|rfl)|hn
  all_goals first|omega|skip
  have:=hR.2.2.2.2.2.1 n hn;omega
 .omega
 .omega
 .omega
 .obtain⟨i,hi,rfl⟩:=List.mem_iff_getElem.1 hp;have hpo:=JH (hr.par i hi);unfold FG at hn;simp only [List.mem_cons,List.not_mem_nil,or_false] at hn;have hf:=AP (n:=h.AE[i].CB+1) (by omega) (by omega);rw [hf] at hn;omega
 .obtain⟨i,hi,rfl⟩:=List.mem_iff_getElem.1 hc;have hs:i<h.AS.AM.length:=by rw [<-hr.MA];exact hi
  have hD:h.AS.AM.getD i 0=h.AS.AM[i]:=by simp [List.getD,hs]
  have h1:=(hr.cab i hi).2;have h2:=hR.2.2.2.2.2.1 _ (List.getElem_mem hs);rw [hD] at h1;omega
 .have:=hr.todo;have:=hr.E2;omega
 .obtain⟨i,hi,rfl⟩:=List.mem_iff_getElem.1 hn;have h1:=GC.1 hk.2.2.2.2.2.2.1 i hi;unfold MN at h1;have hn4:=hr.MA;have:=hr.E2;rw [Ay hi,Bool.and_eq_true,Bp,AP (by omega) (by omega)] at h1;omega
 .have:=hr.job j hj;unfold up;rw [AP (by omega) (by omega)];omega
theorem NZ(l:List AI):(l.flatMap FG).length=10*l.length:=by
 induction l with
 |nil=>rfl
 |cons p l ih=>rw [List.flatMap_cons,List.length_append,ih,List.length_cons];show 10+_=_;omega
theorem pP{r r':AO}(h:Dm r=Dm r'):r=r':=by
 obtain⟨s,a,b,c,d,e,f,g,i⟩:=r;obtain⟨s',a',b',c',d',e',f',g',i'⟩:=r';unfold Dm at h;simp only [List.cons_append,List.nil_append,List.cons.injEq] at h;obtain⟨rfl,rfl,rfl,rfl,rfl,rfl,rfl,rfl,rfl⟩:=h;rfl
theorem aI{g h:AF}(hg:Bl g=true)(hh:Bl h=true){t:List Int}(he:BX g++t=BX h):t=[]:=by
 have rg:=Hh hg;have rh:=Hh hh;rw [I9,I9] at he;simp only [List.cons_append,List.append_assoc,List.cons.injEq] at he;obtain⟨h1,he⟩:=he;obtain⟨h2,he⟩:=List.append_inj he (by omega);have hR:=pP h2;simp only [List.cons.injEq] at he;obtain⟨_,_,h3,he⟩:=he;obtain⟨_,he⟩:=List.append_inj he (by rw [NZ,NZ];omega);obtain⟨_,he⟩:=List.append_inj he (by rw [List.length_map,List.length_map,rg.MA,rh.MA,hR]);simp only [List.cons.injEq] at he;obtain⟨h4,he⟩:=he;obtain⟨_,he⟩:=List.append_inj he (by omega);have hl:=congrArg List.length he;rw [List.length_append,List.length_map,List.length_map] at hl;have e1:=rg.sN;have e2:=rh.sN;rw [hR] at e1;exact List.length_eq_zero_iff.1 (by omega)
theorem sO{h:AF}(hb:Bl h=true):16<=(BX h).length:=by
 have hr:=Hh hb;have h1:=FV h.AS;have h2:=hr.E2;have h3:=hr.MA;have h4:=hr.sN;have h5:=hr.AA4;rw [I9];simp only [List.length_cons,List.length_append,List.length_map,NZ];omega
theorem W9{h:AF}(hb:Bl h=true){q:Int}(hq:inB q 0 1000000=true):Ba h q=four ((Gq (pL (q::BX h)):Nat):Int)++pL (q::BX h):=by
 unfold Ba;rw [if_pos ⟨hb,hq⟩]
theorem iF{h:AF}{q:Int}{s:List UInt8}(hs:Ba h q=s)(hl:s≠[]):Bl h=true/\inB q 0 1000000=true:=by
 unfold Ba at hs;split at hs
 .rename_i h1;exact h1
 .exact(hl hs.symm).elim
theorem QE{h:AF}(hb:Bl h=true){q:Int}(hq:inB q 0 1000000=true):∀n∈q::BX h,okN n:=by
 intro n hn;rw [Bp] at hq;rcases List.mem_cons.1 hn with rfl|hn
 .unfold okN;omega
 .exact sQ hb n hn
theorem Gb{h:AF}(hb:Bl h=true){q:Int}(hq:inB q 0 1000000=true):(Ba h q).drop 4=pL (q::BX h)/\20<=(Ba h q).length:=by
 rw [W9 hb hq];have h1:=sm (QE hb hq);have h2:=sO hb;refine⟨List.drop_left' (LB _),?_⟩;rw [List.length_append,LB];simp only [List.length_cons] at h1;omega
theorem pY{h:AF}(hb:Bl h=true)(hf:BO h){q:Int}(hq:inB q 0 1000000=true):Ku (Ba h q)=some (h,q,true):=by
 have hl:=JM h q;obtain⟨h1,h2⟩:=Gb hb hq;obtain⟨r,_,e,hr⟩:=ID (s:=Ba h q) (by omega);rw [e,hr.all h q hb hf ?_ rfl (by omega)];have hle:(pL (q::BX h)).length<=(Ba h q).length:=by rw [<-h1,List.length_drop];omega
 rw [h1];exact kW _ _ (QE hb hq) (by omega)
theorem tK{h:AF}(hb:Bl h=true){q:Int}(hq:inB q 0 1000000=true){m:Nat}(hm:m<(Ba h q).length):∃r,Ku ((Ba h q).take m)=some r/\r.2.2=false:=by
 have hl:=JM h q;obtain⟨r,_,e,hr⟩:=ID (s:=(Ba h q).take m) (by rw [List.length_take];omega);refine⟨r,e,?_⟩;cases hc:r.2.2 with
 |false=>rfl
 |true=>
  exfalso;obtain⟨g1,g2,g3⟩:=hr.yes hc;by_cases hne:(Ba h q).take m=[]
  .rw [hne] at e;have:Ku []=some (Hc,0,false):=rfl;rw [this] at e;cases e;cases hc
  .obtain⟨k1,k2⟩:=iF g3 hne;obtain⟨s1,s2⟩:=Gb k1 k2;obtain⟨s3,s4⟩:=Gb hb hq;have hp:pL (r.2.1::BX r.1)++(Ba h q).drop m=pL (q::BX h):=by
    rw [<-s1,<-s3,g3];have hm4:4<=m:=by
     have:=congrArg List.length g3;rw [List.length_take] at this;omega
    conv=>rhs;rw [<-List.take_append_drop m (Ba h q)]
    rw [List.drop_append_of_le_length (by rw [List.length_take];omega)]
   obtain⟨t,t1,t2⟩:=gb (QE k1 k2) (QE hb hq) hp;simp only [List.cons_append,List.cons.injEq] at t1;have:=aI k1 hb t1.2.symm;rw [this] at t2;have:=congrArg List.length t2;rw [List.length_drop] at this;have e0:(pL []).length=0:=rfl;omega
theorem kp{h:AF}(hb:Bl h=true){q:Int}(hq:inB q 0 1000000=true){k:Nat}(hk:k<(Ba h q).length){y:UInt8}(hy:y≠(Ba h q)[k]):∃r,Ku ((Ba h q).set k y)=some r/\r.2.2=false:=by
 have hl:=JM h q;obtain⟨r,_,e,hr⟩:=ID (s:=(Ba h q).set k y) (by rw [List.length_set];omega);refine⟨r,e,?_⟩;cases hc:r.2.2 with
 |false=>rfl
 |true=>
  exfalso;obtain⟨g1,g2,g3⟩:=hr.yes hc;have hne:(Ba h q).set k y≠[]:=by
   intro h0;have:=congrArg List.length h0;rw [List.length_set,List.length_nil] at this;omega
  obtain⟨k1,k2⟩:=iF g3 hne;obtain⟨s1,s2⟩:=Gb k1 k2;obtain⟨s3,s4⟩:=Gb hb hq;have t1:=W9 k1 k2;have t2:=W9 hb hq;have f1:=LB ((Gq (pL (r.2.1::BX r.1)):Nat):Int);have f2:=LB ((Gq (pL (q::BX h)):Nat):Int);have u1:(Ba r.1 r.2.1).take 4=four ((Gq (pL (r.2.1::BX r.1)):Nat):Int):=by rw [t1];exact List.take_left' f1
  have u2:(Ba h q).take 4=four ((Gq (pL (q::BX h)):Nat):Int):=by rw [t2];exact List.take_left' f2
  by_cases h4:k<4
  ·-- the head
   have e1:((Ba h q).set k y).drop 4=(Ba h q).drop 4:=List.drop_set_of_lt h4;have e2:pL (r.2.1::BX r.1)=pL (q::BX h):=by rw [<-s1,<-s3,g3,e1]
   have e3:(Ba h q).set k y=Ba h q:=by
    rw [<-g3,t1,t2,e2]
   have:=congrArg (fun l=>l[k]?) e3;simp only [List.getElem?_set_self hk,List.getElem?_eq_getElem hk,Option.some.injEq] at this;exact hy this
  .have e1:((Ba h q).set k y).take 4=(Ba h q).take 4:=List.take_set_of_le (by omega);have e2:four ((Gq (pL (r.2.1::BX r.1)):Nat):Int)=four ((Gq (pL (q::BX h)):Nat):Int):=by rw [<-u1,<-u2,g3,e1]
   have e3:=rY (cT _) (cT _) e2;have e4:pL (r.2.1::BX r.1)=(pL (q::BX h)).set (k-4) y:=by
    rw [<-s1,<-s3,g3,List.drop_set,if_neg h4]
   rw [e4] at e3;have hk4:k-4<(pL (q::BX h)).length:=by rw [<-s3,List.length_drop];omega
   have e5:=oS hk4 e3;apply hy;rw [e5];have:(pL (q::BX h))[k-4]?=(Ba h q)[k]?:=by rw [<-s3,List.getElem?_drop];congr 1;omega
   rw [List.getElem?_eq_getElem hk4,List.getElem?_eq_getElem hk,Option.some.injEq] at this;exact this
end Lv.P
namespace Lv.P
open Lv Go
theorem tO{s:List UInt8}(hs:s.length<=1048576)(k:Nat)(hk:k<=1000):∃x,Iq s (k:Int)=some x/\0<=x/\x<256:=by
 unfold Iq;rw [AV];split
 .rename_i h;have hb:=s[k].toNat_lt;rw [AX (by omega),AA,AP (by omega) (by omega)];exact⟨_,rfl,by omega,by omega⟩
 .rw [AP (n:=(k:Int)*7) (by omega) (by omega),AP (by omega) (by omega)];have:=FZ (a:=(k:Int)*7+s.length) (by omega) (show (0:Int)<256 by omega);exact⟨_,rfl,this.1,this.2⟩
theorem yY{γ:Type}{P:γ->Prop}{c:Prop} [Decidable c] {x y:Option γ} (hx:∃r,x=some r/\P r) (hy:∃r,y=some r/\P r):∃r,(if c then x else y)=some r/\P r:=by
 split
 .exact hx
 .exact hy
theorem yr{c:AH}(hc:BF c){r:AO}(hr:r.AM.length<=1048576)(now:Int):∃x,mS c r now=some x/\BF x.2:=by
 have j1:∀x:AH×AI,BF x.1->∃y,PN x=some y/\BF y.2:=by
  rintro⟨c,p⟩ h;unfold PN DR;dsimp only at h ⊢;obtain⟨a,ea,ca,_⟩:=E4 h (l:=[-1,0,2,5,7,1000000,1000001,9223372036854775807,-9223372036854775808]) (by simp);obtain⟨b,eb,_,_,_,cb⟩:=A5 ca 24;obtain⟨d,ed,cd,_⟩:=E4 cb (l:=[0,999,1000,-1]) (by simp);rw [ea,AA,eb,AA];simp only [Bu,ed,AA,AG];refine yY ⟨_,rfl,cd⟩ ?_
  iterate 9 refine yY ⟨_,rfl,cb⟩ ?_
  exact⟨_,rfl,cb⟩
 unfold mS;rw [DP (by omega),AA];obtain⟨x,ex,cx⟩:=iO hc r now;cases Bt r with
 |true=>rw [Ab,ex,AA,AG];exact j1 _ cx
 |false=>rw [Ad,AG];exact j1 _ hc
theorem iR{c:AH}(hc:BF c):∃x,eO c=some x/\BF x.2:=by
 unfold eO;obtain⟨r1,e1,_,_,_,c1⟩:=A5 hc 6;obtain⟨r2,e2,_,_,_,c2⟩:=A5 c1 6;obtain⟨r3,e3,_,_,_,c3⟩:=A5 c2 8;obtain⟨r4,e4,_,_,_,c4⟩:=A5 c3 (w64 (r3.1+1));rw [e1,AA,e2,AA,e3,AA,e4,AA];exact⟨_,rfl,c4⟩
theorem vf{c:AH}(hc:BF c):∃x,mT c=some x/\BF x.2:=by
 unfold mT Gu;obtain⟨r1,e1,c1⟩:=iR hc;obtain⟨r2,e2,c2,_⟩:=E4 c1 (l:=[-1,0,60,61,9223372036854775807,-9223372036854775808]) (by simp);obtain⟨r3,e3,_,_,_,c3⟩:=A5 c2 16;rw [e1,AA,e2,AA,e3,AA];simp only [Bu,AG]
 repeat' split
 all_goals exact⟨_,rfl,c3⟩
theorem iP{c:AH}(hc:BF c):∃x,eP c=some x/\BF x.2:=by
 unfold eP Ip;obtain⟨r1,e1,_,_,_,c1⟩:=A5 hc 4;obtain⟨r2,e2,_,_,_,c2⟩:=A5 c1 20;obtain⟨r3,e3,_,_,_,c3⟩:=A5 c2 12;obtain⟨r4,e4,_,_,_,c4⟩:=A5 c3 6;obtain⟨r5,e5,c5,_⟩:=E4 c4 (l:=[-1,0,5,7,1000,1000001,9223372036854775807,-9223372036854775808]) (by simp);obtain⟨r6,e6,_,_,_,c6⟩:=A5 c5 30;rw [e1,AA,e2,AA,e3,AA,e4,AA,e5,AA,e6,AA];simp only [Bu,AG]
 repeat' split
 all_goals exact⟨_,rfl,c6⟩
theorem Yl{l:List AD}(hl:l.length<=1000)(e:AD):∃x,mU l e=some x/\x.1.length<=l.length+1:=by
 have hlim:lim=268435456:=rfl;have hp:(put ltE e l).length=l.length+1:=C6 ..;unfold mU UB;rw [XE (by omega),AA,KC _ (by omega),AA,Ai,KC _ (by omega),AA];simp only [AG,Ai,SA (show l.length<=lim by omega),AA,Bu]
 repeat' split
 all_goals first|exact⟨_,rfl,by omega⟩|exact⟨_,rfl,by dsimp only;omega⟩
theorem iQ{c:AH}(hc:BF c):∃x,eQ c=some x/\x.1.length<=20/\BF x.2:=by
 have j1:∀(n:Nat) (c:AH),n<=20->BF c->∃y,PO ((n:Int),c)=some y/\y.1.length<=20/\BF y.2:=by
  intro n c hn h;unfold PO;dsimp only;refine E9 (n:=n) (fun i (v:List AD×AH)=>(v.1,(i:Int),v.2)) (fun i v=>v.1.length<=i/\BF v.2) _ (by omega) ?_ (v:=([],c)) ⟨Nat.le_refl _,h⟩;rintro L i ⟨l,c⟩ ⟨g1,g2⟩ hi ih;dsimp only at g1 g2 ih ⊢;unfold eS UC eR;dsimp only;rcases Nat.lt_or_ge i n with h|h
  .obtain⟨x,ex,cx⟩:=iP g2;rw [Ac h,Ab,ex,AA,AV,Ag h (by omega),AG,AG];split
   .obtain⟨q,eq,hq⟩:=Yl (l:=l) (by omega) (AD.mk x.1.Level x.1.Ah (w64 (100+(i:Int))) x.1.As);rw [eq,AA];exact ih (_,_) ⟨Nat.le_trans hq (by omega),cx⟩ h
   .obtain⟨q,eq,hq⟩:=Yl (l:=l) (by omega) x.1;rw [eq,AA];exact ih (_,_) ⟨Nat.le_trans hq (by omega),cx⟩ h
  .obtain rfl:i=n:=by omega
   rw [Ae,Ad,AG];exact⟨_,rfl,by dsimp only;omega,g2⟩
 unfold eQ;obtain⟨r1,e1,a1,b1,d1,c1⟩:=A5 hc 9;obtain⟨r2,e2,c2⟩:=QK c1 12;obtain⟨r3,e3,a3,b3,d3,c3⟩:=A5 c2 4;have d1:=d1 (by omega);have d3:=d3 (by omega);obtain⟨n1,h1⟩:=Int.eq_ofNat_of_zero_le a1;obtain⟨n3,h3⟩:=Int.eq_ofNat_of_zero_le a3;rw [e1,AA,e2,AA,Bu];split
 .rw [e3,AA,AG,AP (by omega) (by omega),h3,show (10:Int)+(n3:Int)=((10+n3:Nat):Int) from by omega];exact j1 _ _ (by omega) c3
 .rw [AG,h1];exact j1 _ _ (by omega) c2
theorem ve{c:AH}(hc:BF c):∃x,mV c=some x/\x.1.length<=1000/\BF x.2:=by
 have hlim:lim=268435456:=rfl;unfold mV Kv;obtain⟨r1,e1,h1,c1⟩:=iQ hc;obtain⟨r2,e2,_,_,_,c2⟩:=A5 c1 10;obtain⟨r3,e3,c3⟩:=iP c2;rw [e1,AA,e2,AA];cases h0:(r2.1==0) with
 |true=>
  rw [Ab,e3,AA,A1 (by rw [DC];omega),AG];exact⟨_,rfl,by dsimp only;rw [List.length_append,List.length_cons,List.length_nil];omega,c3⟩
 |false=>
  rw [Ad];cases h01:(r2.1==1) with
  |true=>
   rw [Ab,AV];split
   .rename_i hl;obtain⟨x,hx⟩:=BR (l:=r1.1) (i:=0) (by omega) (by omega);obtain⟨y,hy⟩:=BR (l:=r1.1) (i:=1) (by omega) (by omega);obtain⟨z,hz⟩:=BR (l:=List.set r1.1 (Int.toNat 0) y) (i:=1) (by omega) (by rw [List.length_set];omega);simp only [hx,hy,hz,AA,AG];exact⟨_,rfl,by simp only [List.length_set];omega,c2⟩
   .rw [AG];exact⟨_,rfl,by dsimp only;omega,c2⟩
  |false=>rw [Ad,AG];exact⟨_,rfl,by dsimp only;omega,c2⟩
theorem tZ{c:AH}(hc:BF c):∃x,fG c=some x/\BF x.2:=by
 unfold fG PU;obtain⟨r1,e1,_,_,_,c1⟩:=A5 hc 24;obtain⟨r2,e2,_,_,_,c2⟩:=A5 c1 12;obtain⟨r3,e3,_,_,_,c3⟩:=A5 c2 20;obtain⟨r4,e4,c4,_⟩:=E4 c3 (l:=[0,-1,-9,1000008,1000009,9223372036854775807,-9223372036854775808]) (by simp);obtain⟨r5,e5,c5,_⟩:=E4 c3 (l:=[0,999,1000,-1]) (by simp);rw [e1,AA,e2,AA,e3,AA];simp only [Bu,AG,e4,e5,AA]
 repeat' split
 all_goals first|exact⟨_,rfl,c4⟩|exact⟨_,rfl,c5⟩|exact⟨_,rfl,c3⟩
theorem vi{c:AH}(hc:BF c):∃x,mq c=some x/\x.1.length<=8/\BF x.2:=by
 have hlim:lim=268435456:=rfl;unfold mq;obtain⟨r1,e1,a1,_,d1,c1⟩:=A5 hc 8;have d1:=d1 (by omega);obtain⟨n,hn⟩:=Int.eq_ofNat_of_zero_le a1;rw [e1,AA];refine E9 (n:=n) (fun i (v:List AN×AH)=>(v.1,(i:Int),v.2)) (fun i v=>v.1.length<=i/\BF v.2) _ (by omega) ?_ (v:=([],r1.2)) ⟨Nat.le_refl _,c1⟩;rintro L i ⟨l,c⟩ ⟨g1,g2⟩ hi ih;dsimp only at g1 g2 ih ⊢;unfold fI fH;dsimp only;rw [hn];rcases Nat.lt_or_ge i n with h|h
 .obtain⟨x,ex,cx⟩:=tZ g2;rw [Ac h,Ab,ex,AA,A1 (by rw [DC];omega),Ag h (by omega)];exact ih (_,_) ⟨by dsimp only;rw [List.length_append,List.length_cons,List.length_nil];omega,cx⟩ h
 .obtain rfl:i=n:=by omega
  rw [Ae,Ad,AG];exact⟨_,rfl,by dsimp only;omega,g2⟩
theorem pg{w:AK}(hw:w.AJ.length=9)(p:AN):(IW w p).1.AJ.length=9:=by
 unfold IW;split
 .unfold QP;dsimp only;rw [List.length_set];exact hw
 .exact hw
theorem tl{w:AK}(hw:w.AJ.flatten.length<=10)(p:AN):(IW w p).1.AJ.flatten.length<=10:=by
 unfold IW;split
 .rename_i h;exact(CV.1 h.2.2).few
 .exact hw
theorem iS{c:AH}(hc:BF c):∃x,fJ c=some x/\BU x.1/\(x.1.AJ.length=9/\x.1.AJ.flatten.length<=10)/\BF x.2:=by
 have hlim:lim=268435456:=rfl;have j2:∀(l:List AN) (c:AH),l.length<=100->BF c->∃y,PV ⟨List.replicate 9 []⟩ (l,c)=some y/\BU y.1/\(y.1.AJ.length=9/\y.1.AJ.flatten.length<=10)/\BF y.2:=by
  intro l c hl h;unfold PV;dsimp only;refine E9 (n:=l.length) (fun i (v:AK)=>((i:Int),v)) (fun _ v=>BU v/\v.AJ.length=9/\v.AJ.flatten.length<=10) _ (by omega) ?_ (v:=⟨List.replicate 9 []⟩) ⟨KH,by simp,by simp⟩;rintro L i w ⟨g1,g2⟩ hi ih;unfold fM fK;dsimp only;rcases Nat.lt_or_ge i l.length with h'|h'
  .rw [Ac h',Ab,AX h',AA,AA,IT g1,AA,Ag h' (by omega)];exact ih _ ⟨QO g1 _,pg g2.1 _,tl g2.2 _⟩ h'
  .obtain rfl:i=l.length:=by omega
   rw [Ae,Ad,AG];exact⟨_,rfl,g1,g2,h⟩
 unfold fJ;obtain⟨r2,e2,h2,c2⟩:=vi hc;obtain⟨r3,e3,c3⟩:=QK c2 10;rw [J3,AA,e2,AA,e3,AA,Bu];split
 .refine E9 (n:=10) (fun i (v:List AN)=>(v,(i:Int))) (fun i v=>v.length<=8+i) _ (by omega) ?_ (v:=r2.1) (by omega);intro L i l g1 hi ih;unfold fL;dsimp only;rw [AV];rcases Nat.lt_or_ge i 10 with h|h
  .rw [if_pos (by omega),A1 (by rw [DC];omega),Ag h (by omega)];exact ih _ (by rw [List.length_append,List.length_cons,List.length_nil];omega) h
  .rw [if_neg (by omega),AG];exact j2 _ _ (by omega) c3
 .rw [AG];exact j2 _ _ (by omega) c3
theorem vg{c:AH}(hc:BF c):∃x,mr c=some x/\BU x.1/\BF x.2:=by
 have hlim:lim=268435456:=rfl;unfold mr K0;obtain⟨r1,e1,hf,⟨h9,h10⟩,c1⟩:=iS hc;obtain⟨r2,e2,_,_,_,c2⟩:=A5 c1 10;rw [e1,AA,e2,AA];cases h0:(r2.1==0) with
 |true=>
  obtain⟨r3,e3,a3,_,d3,c3⟩:=A5 c2 9;have d3:=d3 (by omega);obtain⟨k,hk⟩:=Int.eq_ofNat_of_zero_le a3;have hks:k<r1.1.AJ.length:=by omega
  obtain⟨r6,e6,c6⟩:=tZ c3;have hsl:=Ge hks;have h2:=hf.2;have hh:Y.Jq k 0 [U.sl (C.st 5) (r1.1.AJ[k]++[r6.1])].length [(k,0)]:=⟨rfl,⟨Nat.le_refl _,by simp⟩,trivial⟩;have hst:=fb hks (r1.1.AJ[k]++[r6.1]);rw [Ab,e3,AA,hk,AX hks,AA,AA,e6,AA,A1 (by rw [DC];omega),AA,AA,Int.toNat_natCast,A1 hh,AG];refine⟨_,rfl,⟨by dsimp only;rw [List.length_set];omega,?_⟩,c6⟩;rw [List.length_append,List.length_cons,List.length_nil] at hst;show (r1.1.AJ.set k (r1.1.AJ[k]++[r6.1])).flatten.length<=_;omega
 |false=>
  rw [Ad];cases h1:(r2.1==1) with
  |true=>
   obtain⟨r3,e3,a3,_,d3,c3⟩:=A5 c2 10;have d3:=d3 (by omega);rw [Ab,e3,AA,A1 ⟨by omega,by omega⟩,AG];refine⟨_,rfl,⟨?_,?_⟩,c3⟩
   .dsimp only;rw [List.length_take,List.length_drop];omega
   .dsimp only;have h3:=congrArg (fun s=>s.flatten.length) (List.take_append_drop (r3.1.toNat-0) r1.1.AJ);simp only [List.flatten_append,List.length_append] at h3;have:=hf.2;rw [List.drop_zero];omega
  |false=>
   rw [Ad];cases h3:(r2.1==2) with
   |true=>
    rw [Ab,A1 (by omega),AG];refine⟨_,rfl,⟨?_,?_⟩,c2⟩
    .dsimp only;rw [List.length_append,List.length_cons,List.length_nil];omega
    .dsimp only;rw [List.flatten_append];simpa using hf.2
   |false=>rw [Ad,AG];exact⟨_,rfl,hf,c2⟩
theorem tW{c:AH}(hc:BF c):∃x,mu c=some x/\CW x.1/\BF x.2:=by
 unfold mu Uc;obtain⟨r1,e1,c1⟩:=QK hc 4;rw [e1,AA,Bu];split
 .obtain⟨r2,e2,c2⟩:=vf c1;obtain⟨r3,e3,h3,c3⟩:=ve c2;obtain⟨r4,e4,h4,c4⟩:=vg c3;rw [e2,AA,e3,AA,e4,AA];exact⟨_,rfl,⟨by dsimp only;omega,h4⟩,c4⟩
 .unfold rG;obtain⟨r2,e2,c2⟩:=iR c1;obtain⟨r3,e3,h3,c3⟩:=iQ c2;obtain⟨r4,e4,h4,_,c4⟩:=iS c3;rw [e2,AA,e3,AA,e4,AA,AA,Bu,AG,AG];split <;> exact⟨_,rfl,⟨by dsimp only;omega,h4⟩,c4⟩
theorem ku{c:AH}(hc:BF c):∃x,mw c=some x/\BO x.1/\BF x.2:=by
 have hlim:lim=268435456:=rfl;unfold mw Cq;obtain⟨h,e1,⟨b1,b2,b3,hf,b4,b5,b6⟩,c1⟩:=kr hc;obtain⟨r2,e2,c2,_⟩:=E4 c1 (l:=[-1,0,1,3,1000000,1000001,1000002,9223372036854775807,-9223372036854775808]) (by simp);obtain⟨r3,e3,_,_,_,c3⟩:=A5 c2 40;obtain⟨f1,f2,f3,f4,f5,f6⟩:=hf;rw [e1,AA,e2,AA,e3,AA];cases k0:(r3.1==0) with
 |true=>rw [Ab,AG];exact⟨_,rfl,⟨f1,f2,f3,f4,f5,f6⟩,c3⟩
 |false=>
 rw [Ad];cases k1:(r3.1==1) with
 |true=>rw [Ab,AG];exact⟨_,rfl,⟨f1,f2,f3,f4,f5,f6⟩,c3⟩
 |false=>
 rw [Ad];cases k2:(r3.1==2) with
 |true=>
  rw [Ab,A1 (by rw [DC];omega),AG];exact⟨_,rfl,⟨f1,f2,f3,f4,by dsimp only;rw [List.length_append,List.length_cons,List.length_nil];omega,f6⟩,c3⟩
 |false=>
 rw [Ad];cases k3:(r3.1==3) with
 |true=>
  rw [Ab,A1 (by rw [DC];omega),AG];exact⟨_,rfl,⟨f1,f2,f3,f4,f5,by dsimp only;rw [List.length_append,List.length_cons,List.length_nil];omega⟩,c3⟩
 |false=>
 rw [Ad];cases k4:(r3.1==4) with
 |true=>
  obtain⟨p,ep,cp⟩:=yr c3 f1 h.1.Now;rw [Ab,ep,AA,A1 (by rw [DC];omega),AG];exact⟨_,rfl,⟨f1,by dsimp only;rw [List.length_append,List.length_cons,List.length_nil];omega,f3,f4,f5,f6⟩,cp⟩
 |false=>
 rw [Ad];cases k5:(r3.1==5) with
 |true=>
  rw [Ab,AV];split
  .obtain⟨x,hx⟩:=BR (l:=h.1.AE) (i:=0) (by omega) (by omega);simp only [hx,AA,AG];exact⟨_,rfl,⟨f1,by simp only [List.length_set];exact f2,f3,f4,f5,f6⟩,c3⟩
  .rw [AG];exact⟨_,rfl,⟨f1,f2,f3,f4,f5,f6⟩,c3⟩
 |false=>
 rw [Ad];cases k6:(r3.1==6) with
 |true=>
  rw [Ab,AP (by omega) (by omega),A1 ⟨by omega,by omega⟩,AG];refine⟨_,rfl,⟨f1,f2,?_,?_,f5,f6⟩,c3⟩
  .dsimp only;rw [List.length_take,List.length_drop];omega
  .intro x hx;exact f4 x (List.mem_of_mem_drop (List.mem_of_mem_take hx))
 |false=>
 rw [Ad];cases k7:(r3.1==7) with
 |true=>
  obtain⟨q,eq,hq,cq⟩:=tW c3;obtain⟨x,hx⟩:=BR (l:=h.1.AR) (i:=0) (by omega) (by omega);rw [Ab,eq,AA,hx,AA,AA,AG];refine⟨_,rfl,⟨f1,f2,by simp only [List.length_set];exact f3,?_,f5,f6⟩,cq⟩;intro y hy;rcases List.mem_or_eq_of_mem_set hy with hy|rfl
  .exact f4 y hy
  .exact hq
 |false=>
 rw [Ad];cases k8:(r3.1==8) with
 |true=>rw [Ab,AG];exact⟨_,rfl,⟨f1,f2,f3,f4,f5,f6⟩,c3⟩
 |false=>
 rw [Ad];cases k9:(r3.1==9) with
 |true=>
  rw [Ab,AV];split
  .obtain⟨x,hx⟩:=BR (l:=h.1.AE) (i:=0) (by omega) (by omega);obtain⟨y,hy⟩:=BR (l:=h.1.AE) (i:=1) (by omega) (by omega);simp only [hx,hy,AA,AG];exact⟨_,rfl,⟨f1,by simp only [List.length_set];exact f2,f3,f4,f5,f6⟩,c3⟩
  .rw [AG];exact⟨_,rfl,⟨f1,f2,f3,f4,f5,f6⟩,c3⟩
 |false=>rw [Ad,AG];exact⟨_,rfl,⟨f1,f2,f3,f4,f5,f6⟩,c3⟩
theorem NQ{s:List UInt8}(hs:s.length<=1048576):∃x,fN s=some x/\BO x.1:=by
 have j1:∀(h:AF) (c:AH),BO h->BF c->∃y,PW (h,c)=some y/\BO y.1:=by
  intro h c hf hc;unfold PW rH;obtain⟨x,ex,_,_⟩:=E4 hc (l:=[0,0,1,7,300,1000000,1000001,-1,9223372036854775807]) (by simp);dsimp only;rw [ex,AA,AA];exact⟨_,rfl,hf⟩
 unfold fN;obtain⟨c,e1,h1⟩:=yu hs;obtain⟨h,e2,h2,h3⟩:=kr h1;obtain⟨o,e3,c3⟩:=QK h3 8;rw [e1,AA,e2,AA,e3,AA,Bu];split
 .obtain⟨x,ex,hx,cx⟩:=ku c3;rw [ex,AA,AG];exact j1 _ _ hx cx
 .rw [AG];exact j1 _ _ h2.2.2.2.1 c3
theorem kd(l:List AD):DE eqE l l=true:=(GZ nI).2 rfl
theorem kf(l:List AN):DE eqP l l=true:=(GZ nJ).2 rfl
theorem SL(x:Int):(x==x)=true:=beq_self_eq_true x
theorem kj{r:AO}(hr:r.AM.length<=1048576):my r r=some true:=by
 unfold my D2;simp only [H9 (show r.AM.length<2 ^ 62 by omega),HW.2,AA,SL,Ab,AG]
theorem kl{w:AK}(hw:BU w)(hb:DY w=true):mz w w=some true:=by
 unfold mz PX;have h1:=OS hw;simp only [E3 hw,hb,R9 hw,NP (show (F6 w).length<2 ^ 62 by omega),kf,AA,Ab,AG]
theorem kg{c:Am}(hc:CW c)(hb:JV c=true):m0 c c=some true:=by
 have hw:DY c.Gk=true:=by
  unfold JV at hb;simp only [Bool.and_eq_true] at hb;exact hb.2.2
 have h1:=hc.1;unfold m0 Is;simp only [QF hc,hb,SL,Bool.and_true,QI (show c.Row.length<2 ^ 62 by omega),kd,kl hc.2 hw,AA,Ab,AG]
theorem kh{h:AF}(hf:BO h)(hb:Bl h=true):fO h h=some true:=by
 have h1:=hf.E2;have h2:=hf.Du;have h3:=hf.MA;have h4:=hf.todo;have h5:=hf.jY;unfold fO Eg;simp only [Cv hf,hb,kj h1,H9 (show h.A7.length<2 ^ 62 by omega),H9 (show h.BC.length<2 ^ 62 by omega),HW.2,ne_self,AA,Bool.not_true,Ad,AG];have hc:PY h h ()=some true:=by
  unfold PY;have key:=yW (n:=h.AR.length) (F:=PZ h h) (by omega) ?_ ?_
  .rw [ne_self,Ad] at key;exact key
  .intro L i hi;have hcb:JV h.AR[i]=true:=by
    have hk:=GC.1 (EU hb).2.2.2.2.2.2.2.2.2 i hi;unfold S6 at hk;rw [Ay hi] at hk;unfold Fa at hk;simp only [Bool.and_eq_true] at hk;exact hk.2.1.1
   unfold PZ;rw [Ac hi,Ab,AX hi,AA,AA,kg (hf.QZ _ (List.getElem_mem hi)) hcb,AA,Ai,Ab]
  .intro L;unfold PZ fP;rw [Ae,Ad,AG]
 rw [<-hc];refine(Bz (n:=h.AE.length) (fun i (_:Unit)=>(i:Int)) (fun _ _=>True) (fun _ _=>PY h h ()) (by omega) ?_ (v:=()) trivial);intro L i _ _ hi ih;unfold fQ;rcases Nat.lt_or_ge i h.AE.length with g|g
 .rw [Ac g,Ab,AX g,AA,AA,Ag g (by omega)];simp only [SL,Bool.and_true,Bool.not_true,Ad];exact ih () trivial g
 .obtain rfl:i=h.AE.length:=by omega
  rw [Ae,Ad,AG]
theorem XA:Ku []=some (Hc,0,false):=rfl
theorem sP(h:AF):BX h≠[]:=by rw [I9];simp
theorem RP{h:AF}{q:Int}(hb:¬(Bl h=true/\inB q 0 1000000=true)):Ba h q=[]:=by unfold Ba;rw [if_neg hb]
theorem ie{s:List UInt8}(_:okL okT s):Fe s=some true:=by
 unfold Fe FK BN;rw [VN,AA,AV];split
 .rfl
 obtain⟨⟨h,q⟩,e1,hf⟩:=NQ (s:=s) (by omega);dsimp only at hf;rw [e1,AA];dsimp only;rw [IM hf,AA,VG hf,Cv hf];cases hb:Bl h with
 |false=>
  have e2:Ba h q=[]:=RP (by rw [hb];rintro⟨h,_⟩;cases h);have e3:I8 h=[]:=by unfold I8;rw [hb,if_neg (by simp)]
  obtain⟨r,h1,hr⟩:=Jr (l:=[]) (by simp);have h2:r.2=false:=by
   cases hc:r.2 with
   |false=>rfl
   |true=>exact((sP _) ((hr.1 hc).1.2.2)).elim
  rw [e2,XA,AA,AA,e3,h1,AA,AA,Ai,Ad];simp only [h2,show (([]:List UInt8)==[])=true from rfl,Bool.not_false,Ab,AG]
 |true=>
  have hn:=JA hf hb;have e3:I8 h=BX h:=by unfold I8;rw [if_pos hb]
  have hn5:=RE (h:=h);rw [e3] at hn5;obtain⟨r,h1,hr⟩:=Jr (l:=BX h) (by omega);have h2:r=(h,true):=by
   obtain⟨g,b⟩:=r;cases b with
   |false=>exact((hr.2 rfl).2 h ⟨hb,hf,rfl⟩).elim
   |true=>rw [(hr.1 rfl).2 h ⟨hb,hf,rfl⟩]
  subst h2;have hs:=kh hf hb;rw [e3];by_cases hq:inB q 0 1000000=true
  .rw [pY hb hf hq];rw [Bp] at hq;simp only [AA,h1,Bool.not_true,Ad,Ab,show decide (q<0)=false from decide_eq_false (by omega),show decide (q>1000000)=false from decide_eq_false (by omega),AG,SL,hs]
  .have e2:Ba h q=[]:=RP (fun hh=>hq hh.2);rw [e2,XA];have hq2:q<0\/q>1000000:=by rw [Bp] at hq;omega
   simp only [AA,h1,Bool.not_true,Bool.not_false,Ad,Ab,AG,show (([]:List UInt8)==[])=true from rfl];rcases hq2 with hq2|hq2
   .rw [show decide (q<0)=true from decide_eq_true hq2,Ab]
   .rw [show decide (q>1000000)=true from decide_eq_true hq2,show decide (q<0)=false from decide_eq_false (by omega),Ad,Ab]
theorem tq(x y:UInt8):toB (((BitVec.ofInt IntKind.u8.bits (x.toNat:Int) ^^^ BitVec.ofInt IntKind.u8.bits (y.toNat:Int)).toNat:Nat):Int)=x ^^^ y:=by
 apply UInt8.toNat_inj.1;have h:=Sq (((BitVec.ofInt IntKind.u8.bits (x.toNat:Int) ^^^ BitVec.ofInt IntKind.u8.bits (y.toNat:Int)).toNat:Nat):Int);have e:∀z:UInt8,(BitVec.ofInt IntKind.u8.bits (z.toNat:Int)).toNat=z.toNat:=by
  intro z;have:=z.toNat_lt;rw [BitVec.toNat_ofInt];have hb:IntKind.u8.bits=8:=rfl;rw [hb];omega
 have hx:=x.toNat_lt;have hy:=y.toNat_lt;have hlt:x.toNat ^^^ y.toNat<2 ^ 8:=Nat.xor_lt_two_pow hx hy;rw [BitVec.toNat_xor,e,e] at h ⊢;rw [UInt8.toNat_xor];omega
theorem Sr{s:List UInt8}(_:okL okT s):DZ s=some true:=by
 unfold DZ Df;rw [VN,AA,AV];split
 .rfl
 have hs:s.length<=1048576:=by omega
 obtain⟨⟨h,q⟩,e1,hf⟩:=NQ hs;dsimp only at hf;rw [e1,AA];dsimp only;rw [IM hf,AA,Cv hf,AA,Ai];have hq:inB (5:Int) 0 1000000=true:=by rw [Bp];omega
 cases hb:Bl h with
 |false=>
  have e2:Ba h 5=[]:=RP (by rw [hb];rintro⟨h,_⟩;cases h);rw [Ad,e2];rfl
 |true=>
  obtain⟨_,hl⟩:=Gb hb hq;have hl2:=JM h 5;rw [Ab,AV,if_neg (by omega)];obtain⟨a1,g1,p1,q1⟩:=tO hs 1 (by omega);obtain⟨a2,g2,p2,q2⟩:=tO hs 2 (by omega);obtain⟨a3,g3,p3,q3⟩:=tO hs 3 (by omega);obtain⟨a4,g4,p4,q4⟩:=tO hs 4 (by omega);obtain⟨a5,g5,p5,q5⟩:=tO hs 5 (by omega);have g1':Iq s 1=some a1:=g1;have g2':Iq s 2=some a2:=g2;have g3':Iq s 3=some a3:=g3;have g4':Iq s 4=some a4:=g4;have g5':Iq s 5=some a5:=g5;have w1:w64 (w64 (a1*256)+a2)=a1*256+a2:=by rw [AP (n:=a1*256) (by omega) (by omega)];exact AP (by omega) (by omega)
  have w2:w64 (w64 (a3*256)+a4)=a3*256+a4:=by rw [AP (n:=a3*256) (by omega) (by omega)];exact AP (by omega) (by omega)
  obtain⟨m1,m2⟩:=FZ (a:=a1*256+a2) (n:=((Ba h 5).length:Int)) (by omega) (by omega);obtain⟨k1,k2⟩:=FZ (a:=a3*256+a4) (n:=((Ba h 5).length:Int)) (by omega) (by omega);have hne:((Ba h 5).length:Int)≠0:=by omega
  rw [g1',AA,g2',AA,A1 hne,w1,A1 ⟨m1,by omega⟩];obtain⟨m,hm⟩:=Int.eq_ofNat_of_zero_le m1;obtain⟨k,hk⟩:=Int.eq_ofNat_of_zero_le k1;have hkl:k<(Ba h 5).length:=by omega
  obtain⟨r,er,hr⟩:=tK hb hq (m:=m) (by omega);rw [hm,Int.toNat_natCast,er,AA,g3',AA,g4',AA,A1 hne,w2,hk,AX hkl,AA,AA,g5',AA,AA,AA,Int.toNat_natCast,tq];have ht:=FZ (a:=a5) (n:=255) (by omega) (by omega);have hy:(Ba h 5)[k] ^^^ toB (w64 (1+Int.tmod a5 255))≠(Ba h 5)[k]:=by
   intro hc;have h0:toB (w64 (1+Int.tmod a5 255))=0:=by
    have:=congrArg (fun z=>(Ba h 5)[k] ^^^ z) hc;simp only [<-UInt8.xor_assoc,UInt8.xor_self,UInt8.zero_xor] at this;exact this
   have h1:=Sq (w64 (1+Int.tmod a5 255));rw [h0,AP (by omega) (by omega)] at h1;have:((0:UInt8).toNat:Int)=0:=rfl;omega
  obtain⟨r',er',hr'⟩:=kp hb hq hkl hy;rw [er',AA,hr,hr',AG];rfl
end Lv.P
