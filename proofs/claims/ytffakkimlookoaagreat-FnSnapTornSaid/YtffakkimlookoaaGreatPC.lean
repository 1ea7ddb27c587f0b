/-
  Plain laws: events, loops, numbers in bytes.
-/
import Derived.Test.YtffakkimlookoaaGreatKC
import Derived.Test.YtffakkimlookoaaGreatPA
set_option linter.unusedVariables false
set_option linter.unusedSimpArgs false
namespace Lv.P
open Go (IntKind BinOp UnOp)
@[simp] theorem vC(a b c:Int):CY a b c=some (decide (b<=a/\a<=c)):=by
 unfold CY SR;simp only [AV,AG];by_cases h:a>=b <;> simp [h,show b<=a↔a>=b from Iff.rfl]
@[simp] theorem Yv(a b c:Int):Ce a b c=some (decide (b<=a/\a<=c)):=by
 unfold Ce SQ;simp only [AV,AG];by_cases h:a>=b <;> simp [h,show b<=a↔a>=b from Iff.rfl]
def IQ(n:Nat):List UInt8:=if n<128 then [UInt8.ofNat n] else UInt8.ofNat (n % 128+128)::IQ (n / 128)
decreasing_by omega
def pN(n:Int):List UInt8:=if 0<=n/\n<=2147483647 then IQ n.toNat else []
theorem H4{n:Nat}(h:n<128):IQ n=[UInt8.ofNat n]:=by rw [IQ,if_pos h]
theorem Mv{n:Nat}(h:128<=n):IQ n=UInt8.ofNat (n % 128+128)::IQ (n / 128):=by rw [IQ,if_neg (by omega)]
theorem GR(n:Nat):0<(IQ n).length:=by rw [IQ];split <;> simp
theorem R7:∀(k n:Nat),n<128 ^ (k+1)->(IQ n).length<=k+1
 |0,n,h=>by rw [H4 (by simpa using h)];simp
 |k+1,n,h=>by
  rcases Nat.lt_or_ge n 128 with h1|h1
  .rw [H4 h1];simp
  .rw [Mv h1];have:=R7 k (n / 128) (by rw [Nat.div_lt_iff_lt_mul (by omega)];rw [Nat.pow_succ] at h;exact h);simp only [List.length_cons];omega
theorem RM{n:Nat}(h:n<=2147483647):(IQ n).length<=5:=R7 4 n (by omega)
theorem kS(n:Int):(pN n).length<=5:=by unfold pN;split
                                       .exact RM (by omega)
                                       .simp
theorem nu{F:(Int×List UInt8->Option (List UInt8))->Int×List UInt8->Option (List UInt8)}
 (hF:∀L n acc,F L (n,acc)=if n<128 then gd (acc.length+1<=lim) (some (acc++[toB n])) else gd (acc.length+1<=lim) (L (w64 (Int.tdiv n 128),acc++[toB (w64 (Int.tmod n 128+128))])))
 {n:Nat} (hn:n<=2147483647):AT F big ((n:Int),[])=some (IQ n):=by
 have:=pA (F:=F) (x:=((n:Int),[])) (fun x=>some (x.2++IQ x.1.toNat)) (fun x=>0<=x.1/\x.1<=2147483647/\x.2.length+(IQ x.1.toNat).length<=5) (fun x=>x.1.toNat) ?_ ?_ ?_
 .simpa using this
 .rintro L ⟨m,acc⟩ ⟨h0,h1,h2⟩ hL;dsimp only at h0 h1 h2 hL ⊢;obtain⟨m,rfl⟩:=Int.eq_ofNat_of_zero_le h0;rw [hF];simp only [Int.toNat_natCast] at h2 hL ⊢;have hlim:acc.length+1<=lim:=by have:=GR m;unfold lim;omega
  by_cases h:m<128
  .rw [if_pos (by omega),A1 hlim,H4 h,oD (by omega)]
  .have e1:Int.tdiv (m:Int) 128=((m / 128:Nat):Int):=by
    rw [Int.tdiv_eq_ediv_of_nonneg (by omega)];rfl
   have e2:Int.tmod (m:Int) 128+128=((m % 128+128:Nat):Int):=by
    rw [Int.tmod_eq_emod_of_nonneg (by omega)];omega
   have hp:=Mv (n:=m) (by omega);rw [if_neg (by omega),A1 hlim,e1,e2,AP (by omega) (by omega),AP (by omega) (by omega),oD (by omega)];rw [hL _ ⟨by dsimp only;omega,by dsimp only;omega,?_⟩ (by dsimp only;omega)]
   .simp only [Int.toNat_natCast,hp];simp
   .rw [hp] at h2;simp only [List.length_append,List.length_cons,List.length_nil,Int.toNat_natCast] at h2 ⊢;omega
 .refine⟨by dsimp only;omega,by dsimp only;omega,?_⟩;have:=RM hn;simpa using this
 .dsimp only;omega
@[simp] theorem iI(n:Int):Fg n=some (pN n):=by
 unfold Fg pN;simp only [vC,AA,Ai,AV];split
 .rename_i h;obtain⟨m,rfl⟩:=Int.eq_ofNat_of_zero_le h.1;refine nu (fun L n acc=>?_) (by omega);unfold Ik Ij;simp only [AV,AG,List.length_cons,List.length_nil,Nat.zero_add];by_cases h:n>127
  .rw [if_pos h,if_neg (by omega)]
  .rw [if_neg h,if_pos (by omega)]
 .rfl
@[simp] theorem H0(n:Int):Tt n=some (pN n):=by
 unfold Tt pN;simp only [Yv,AA,Ai,AV];split
 .rename_i h;obtain⟨m,rfl⟩:=Int.eq_ofNat_of_zero_le h.1;refine nu (fun L n acc=>?_) (by omega);unfold dx dw;simp only [AV,AG,List.length_cons,List.length_nil,Nat.zero_add];by_cases h:n>=128
  .rw [if_pos h,if_neg (by omega)]
  .rw [if_neg h,if_pos (by omega)]
 .rfl
def rdN:Nat->Nat->Nat->List UInt8->Option (Nat×Nat)
 |0,_,_,_=>none
 |_+1,_,_,[]=>none
 |f+1,k,a,d::l=>
  if d.toNat<128 then (if (0<k/\d.toNat=0)\/2147483647<a+(d.toNat % 128)*2 ^ (7*k) then none else some (a+(d.toNat % 128)*2 ^ (7*k),k+1))
  else rdN f (k+1) (a+(d.toNat % 128)*2 ^ (7*k)) l
def jK(at_:Nat):Option (Nat×Nat)->Int×Int×Bool
 |some (n,m)=>((n:Int),((at_+m:Nat):Int),true)
 |none=>(0,0,false)
def gN(b:List UInt8)(i:Int):Int×Int×Bool:=if 0<=i/\i<b.length then jK i.toNat (rdN 5 0 0 (b.drop i.toNat)) else (0,0,false)
theorem iE{c s:Nat}(hc:c<128)(hs:s<=28):W7 (c:Int) (s:Int)=((c*2 ^ s:Nat):Int):=by
 have h1:c*2 ^ s<2 ^ 35:=by
  have:2 ^ s<=2 ^ 28:=Nat.pow_le_pow_right (by omega) hs
  calc c*2 ^ s<=127*2 ^ 28:=Nat.mul_le_mul (by omega) this
   _<2 ^ 35:=by decide
 unfold W7;have e:min (s:Int).toNat IntKind.i64.bits=s:=by simp only [Int.toNat_natCast,IntKind.bits];omega
 rw [e];have e2:(c:Int)*2 ^ s=((c*2 ^ s:Nat):Int):=by push_cast;rfl
 rw [e2,M1 (by omega) (by omega)]
theorem GY{n:Nat}(h:n<2 ^ 63):(BitVec.ofInt IntKind.i64.bits (n:Int)).toNat=n:=by
 simp only [IntKind.bits,BitVec.toNat_ofInt];omega
theorem vL{a b:Nat}(ha:a<2 ^ 63)(hb:b<2 ^ 63):orI (a:Int) (b:Int)=((a |||b:Nat):Int):=by
 unfold orI;rw [BitVec.toNat_or,GY ha,GY hb];have:a |||b<2 ^ 63:=Nat.or_lt_two_pow ha hb;rw [M1 (by omega) (by omega)]
theorem xp{a c s:Nat}(ha:a<2 ^ s):a |||c*2 ^ s=a+c*2 ^ s:=by
 have:=Nat.two_pow_add_eq_or_of_lt ha c;rw [Nat.or_comm,Nat.mul_comm,<-this,Nat.add_comm]
theorem gi:∀(k n:Nat),n<128 ^ (k+1)->((IQ n).length=k+1↔k=0\/128 ^ k<=n)
 |0,n,h=>by rw [H4 (by simpa using h)];simp
 |k+1,n,h=>by
  rcases Nat.lt_or_ge n 128 with h1|h1
  .rw [H4 h1];have:128 ^ 1<=128 ^ (k+1):=Nat.pow_le_pow_right (by omega) (by omega);simp only [List.length_cons,List.length_nil];omega
  .rw [Mv h1];have hd:n / 128<128 ^ (k+1):=by rw [Nat.div_lt_iff_lt_mul (by omega)];rw [Nat.pow_succ] at h;exact h
   have:=gi k (n / 128) hd;have e:128 ^ k<=n / 128↔128 ^ (k+1)<=n:=by rw [Nat.le_div_iff_mul_le (by omega),Nat.pow_succ]
   simp only [List.length_cons,Nat.add_right_cancel_iff];rw [this,e];cases k with
   |zero=>simp;omega
   |succ k=>simp
theorem xt(k:Nat):(2:Nat) ^ (7*k)=128 ^ k:=by rw [Nat.pow_mul]
theorem digit{a k c:Nat}(hk:k<5)(ha:a<128 ^ k)(hc:c<128):a+c*2 ^ (7*k)<128 ^ (k+1)/\a+c*2 ^ (7*k)<2 ^ 35:=by
 rw [xt];have h1:a+c*128 ^ k<128 ^ (k+1):=by
  have:c*128 ^ k<=127*128 ^ k:=Nat.mul_le_mul_right _ (by omega);rw [Nat.pow_succ];omega
 refine⟨h1,Nat.lt_of_lt_of_le h1 ?_⟩
 calc 128 ^ (k+1)<=128 ^ 5:=Nat.pow_le_pow_right (by omega) (by omega)
  _=2 ^ 35:=by decide
theorem JN{b:List UInt8}(hb:b.length<2 ^ 62){i:Nat}(hi:i<2 ^ 62):∀(f k a n:Nat),f+k=5->f<n->a<128 ^ k ->
 AT (Cb b i) n ((a:Int),(k:Int))=some (jK i (rdN f k a (b.drop (i+k))))
 |0,k,a,n,hf,hn,ha=>by
  obtain⟨n,rfl⟩:∃m,n=m+1:=⟨n-1,by omega⟩;rw [Bo];unfold Cb Ii;simp only [AV,AG];rw [if_neg (by omega)];rfl
 |f+1,k,a,n,hf,hn,ha=>by
  obtain⟨n,rfl⟩:∃m,n=m+1:=⟨n-1,by omega⟩;rw [Bo];generalize hL:AT (Cb b i) n=L;unfold Cb;simp only [AV,AG];rw [if_pos (by omega),if_neg (by omega)];unfold Dq Dr;simp only [AV,AG,Ab,Bu,ge_iff_le,beq_iff_eq,decide_eq_true_eq];rw [AP (n:=(b.length:Int)-k) (by omega) (by omega)];cases hl:b.drop (i+k) with
  |nil=>
   have:b.length<=i+k:=List.drop_eq_nil_iff.1 hl;rw [if_pos (by omega)];rfl
  |cons d l=>
   have hlt:i+k<b.length:=by
    rcases Nat.lt_or_ge (i+k) b.length with h|h
    .exact h
    .rw [List.drop_eq_nil_of_le h] at hl;cases hl
   have hd:b[i+k]?=some d:=by
    have:=List.getElem?_drop (xs:=b) (i:=i+k) (j:=0);rw [hl] at this;simpa using this.symm
   have hl':b.drop (i+(k+1))=l:=by
    rw [<-Nat.add_assoc,<-List.drop_drop,hl];rfl
   rw [if_neg (by omega),AP (n:=(i:Int)+k) (by omega) (by omega),show (i:Int)+k=((i+k:Nat):Int) from by push_cast;rfl,Hn,hd,AA];have hd8:d.toNat<256:=d.toNat_lt;have e7:w64 (7*(k:Int))=((7*k:Nat):Int):=by rw [AP (by omega) (by omega)];push_cast;rfl
   have ed:w64 ((d.toNat:Nat):Int)=(d.toNat:Int):=AP (by omega) (by omega);have em:Int.tmod (d.toNat:Int) 128=((d.toNat % 128:Nat):Int):=by rw [Int.tmod_eq_emod_of_nonneg (by omega)];rfl
   obtain⟨hs1,hs2⟩:=digit (a:=a) (k:=k) (c:=d.toNat % 128) (by omega) ha (by omega);have hor:orI (a:Int) (W7 ((d.toNat % 128:Nat):Int) ((7*k:Nat):Int))=((a+(d.toNat % 128)*2 ^ (7*k):Nat):Int):=by
    rw [iE (by omega) (by omega)];rw [vL (by have:=Nat.pow_le_pow_right (n:=128) (by omega) (show k<=5 by omega);omega) (by omega),xp (by rw [xt];exact ha)]
   rw [e7,A1 (by omega),ed,em,hor];simp only [rdN];have e1:w64 ((k:Int)+1)=((k+1:Nat):Int):=AP (by omega) (by omega);by_cases h1:d.toNat<128
   .rw [if_pos (by omega),if_pos h1];by_cases hk:0<k
    .rw [if_pos (by omega)];by_cases hz:d.toNat=0
     .rw [if_pos (by omega),if_pos trivial,if_pos (Or.inl ⟨hk,hz⟩)];rfl
     .rw [if_neg (by omega)];by_cases hm:2147483647<a+(d.toNat % 128)*2 ^ (7*k)
      .rw [if_pos (by omega),if_pos (.inr hm)];rfl
      .rw [if_neg (by omega),if_neg (by omega)];simp only [jK,Option.some.injEq,Prod.mk.injEq,and_true,true_and];rw [AP (n:=((i+k:Nat):Int)+1) (by omega) (by omega)];omega
    .rw [if_neg (by omega)];by_cases hm:2147483647<a+(d.toNat % 128)*2 ^ (7*k)
     .rw [if_pos (by omega),if_pos (.inr hm)];rfl
     .rw [if_neg (by omega),if_neg (by omega)];simp only [jK,Option.some.injEq,Prod.mk.injEq,and_true,true_and];rw [AP (n:=((i+k:Nat):Int)+1) (by omega) (by omega)];omega
   .rw [if_neg (by omega),if_neg h1,e1,<-hL,JN hb hi f (k+1) _ n (by omega) (by omega) hs1,hl']
theorem I1{b:List UInt8}(hb:b.length<2 ^ 62){i:Nat}(hi:i<2 ^ 62):∀(f k a n:Nat),f+k=5->f<n->a<128 ^ k ->
 AT (Kr b i) n ((a:Int),(k:Int))=some (jK i (rdN f k a (b.drop (i+k))))
 |0,k,a,n,hf,hn,ha=>by
  obtain⟨n,rfl⟩:∃m,n=m+1:=⟨n-1,by omega⟩;rw [Bo];unfold Kr PC TX;simp only [AV,AG];rw [if_neg (by omega)];rfl
 |f+1,k,a,n,hf,hn,ha=>by
  obtain⟨n,rfl⟩:∃m,n=m+1:=⟨n-1,by omega⟩;rw [Bo];generalize hL:AT (Kr b i) n=L;unfold Kr;simp only [AV,AG];rw [if_pos (by omega)];unfold PC TX;simp only [AV,AG,Bu,bne_iff_ne,H0,AA,decide_eq_true_eq];rw [AP (n:=(i:Int)+k) (by omega) (by omega),show (i:Int)+k=((i+k:Nat):Int) from by push_cast;rfl];cases hl:b.drop (i+k) with
  |nil=>
   have:b.length<=i+k:=List.drop_eq_nil_iff.1 hl;rw [if_neg (by omega)];rfl
  |cons d l=>
   have hlt:i+k<b.length:=by
    rcases Nat.lt_or_ge (i+k) b.length with h|h
    .exact h
    .rw [List.drop_eq_nil_of_le h] at hl;cases hl
   have hd:b[i+k]?=some d:=by
    have:=List.getElem?_drop (xs:=b) (i:=i+k) (j:=0);rw [hl] at this;simpa using this.symm
   have hl':b.drop (i+(k+1))=l:=by
    rw [<-Nat.add_assoc,<-List.drop_drop,hl];rfl
   rw [if_pos (by omega),Hn,hd,AA];have hd8:d.toNat<256:=d.toNat_lt;have e7:w64 (7*(k:Int))=((7*k:Nat):Int):=by rw [AP (by omega) (by omega)];push_cast;rfl
   have ed:w64 ((d.toNat:Nat):Int)=(d.toNat:Int):=AP (by omega) (by omega);have em:Int.tmod (d.toNat:Int) 128=((d.toNat % 128:Nat):Int):=by rw [Int.tmod_eq_emod_of_nonneg (by omega)];rfl
   obtain⟨hs1,hs2⟩:=digit (a:=a) (k:=k) (c:=d.toNat % 128) (by omega) ha (by omega);have hor:w64 ((a:Int)+(W7 ((d.toNat % 128:Nat):Int) ((7*k:Nat):Int)))=((a+(d.toNat % 128)*2 ^ (7*k):Nat):Int):=by
    rw [iE (by omega) (by omega),AP (by omega) (by omega)];push_cast;rfl
   rw [e7,A1 (by omega),ed,em,hor];simp only [rdN,H0,AA];have e1:w64 ((k:Int)+1)=((k+1:Nat):Int):=AP (by omega) (by omega);rw [e1];by_cases h1:d.toNat<128
   .rw [if_pos (by omega),if_pos h1];have hpow:128 ^ k<=a+(d.toNat % 128)*2 ^ (7*k)↔d.toNat≠0:=by
     rw [xt];constructor
     .rintro h h0;rw [h0] at h;simp at h;omega
     .intro h;have:1*128 ^ k<=d.toNat % 128*128 ^ k:=Nat.mul_le_mul_right _ (by omega);omega
    have hlen:((pN ((a+(d.toNat % 128)*2 ^ (7*k):Nat):Int)).length:Int)≠((k+1:Nat):Int)↔(0<k/\d.toNat=0)\/2147483647<a+(d.toNat % 128)*2 ^ (7*k):=by
     unfold pN;split
     .rename_i hle;rw [Int.toNat_natCast];have:=gi k _ hs1;rw [hpow] at this;rw [Ne,Int.ofNat_inj,this];omega
     .simp only [List.length_nil];omega
    by_cases hx:(0<k/\d.toNat=0)\/2147483647<a+(d.toNat % 128)*2 ^ (7*k)
    .rw [if_pos (hlen.2 hx),if_pos hx];rfl
    .rw [if_neg (fun h=>hx (hlen.1 h)),if_neg hx];simp only [jK,Option.some.injEq,Prod.mk.injEq,and_true,true_and];rw [AP (n:=((i+k:Nat):Int)+1) (by omega) (by omega)];omega
   .rw [if_neg (by omega),if_neg h1,<-hL,I1 hb hi f (k+1) _ n (by omega) (by omega) hs1,hl']
theorem iH{b:List UInt8}(hb:b.length<2 ^ 62)(i:Int)(hi:i<2 ^ 62):Ff b i=some (gN b i):=by
 unfold Ff gN;by_cases h0:0<=i
 .obtain⟨j,rfl⟩:=Int.eq_ofNat_of_zero_le h0;have:=JN hb (i:=j) (by omega) 5 0 0 big (by omega) (EA _ (by omega)) (by omega);refine Eq.trans this ?_;simp only [Int.toNat_natCast,Nat.add_zero];split
  .rfl
  .rw [List.drop_eq_nil_of_le (by omega)];rfl
 .obtain⟨n,hn⟩:=KZ 0 (by omega);rw [hn,Bo,if_neg (by omega)];unfold Cb Dq;simp only [AV,AG];rw [if_pos (by omega),if_pos (by omega)];rfl
theorem fm{b:List UInt8}(hb:b.length<2 ^ 62)(i:Int):dZ b i=some (gN b i):=by
 unfold dZ gN;simp only [Yv,AA,Ai,AV];rw [AP (by omega) (by omega)];by_cases h0:0<=i/\i<b.length
 .obtain⟨j,rfl⟩:=Int.eq_ofNat_of_zero_le h0.1;rw [if_pos (by omega),if_pos h0];have:=I1 hb (i:=j) (by omega) 5 0 0 big (by omega) (EA _ (by omega)) (by omega);refine Eq.trans this ?_;simp only [Int.toNat_natCast,Nat.add_zero]
 .rw [if_neg (by omega),if_neg h0]
end Lv.P
namespace Lv.P
open Go (IntKind BinOp UnOp)
theorem wP{n:Nat}(h:n<256):(UInt8.ofNat n).toNat=n:=by simp;omega
theorem ny:∀(f k a n:Nat) (l:List UInt8),(IQ n).length<=f->(k=0\/n≠0)->a+n*2 ^ (7*k)<=2147483647->rdN f k a (IQ n++l)=some (a+n*2 ^ (7*k),k+(IQ n).length)
 |0,k,a,n,l,h,_,_=>by have:=GR n;omega
 |f+1,k,a,n,l,h,hk,hm=>by
  rcases Nat.lt_or_ge n 128 with h1|h1
  .rw [H4 h1];simp only [List.cons_append,List.nil_append,rdN,List.length_cons,List.length_nil];rw [wP (by omega),if_pos h1,Nat.mod_eq_of_lt h1,if_neg (by omega)]
  .rw [Mv h1] at h ⊢;simp only [List.cons_append,rdN,List.length_cons] at h ⊢;rw [wP (by omega),if_neg (by omega)];have e:(n % 128+128) % 128=n % 128:=by omega
   have e2:a+n % 128*2 ^ (7*k)+n / 128*2 ^ (7*(k+1))=a+n*2 ^ (7*k):=by
    have:2 ^ (7*(k+1))=128*2 ^ (7*k):=by rw [Nat.mul_add,Nat.pow_add];omega
    rw [this];have:n=n % 128+128*(n / 128):=(Nat.mod_add_div n 128).symm
    conv=>rhs;rw [this,Nat.add_mul]
    rw [show n / 128*(128*2 ^ (7*k))=128*(n / 128)*2 ^ (7*k) from by rw [<-Nat.mul_assoc,Nat.mul_comm (n / 128) 128]];omega
   rw [e,ny f (k+1) _ (n / 128) l (by omega) (by omega) (by rw [e2];exact hm),e2];congr 2;omega
theorem aw:∀(f k a:Nat) (l:List UInt8) (N m:Nat),rdN f k a l=some (N,m)->∃n l',l=IQ n++l'/\N=a+n*2 ^ (7*k)/\m=k+(IQ n).length/\(k=0\/n≠0)/\N<=2147483647
 |0,k,a,l,N,m,h=>by cases h
 |f+1,k,a,[],N,m,h=>by cases h
 |f+1,k,a,d::l,N,m,h=>by
  have hd8:d.toNat<256:=d.toNat_lt;simp only [rdN] at h;split at h
  .rename_i h1;split at h
   .cases h
   .rename_i h2;cases h;refine⟨d.toNat,l,?_,?_,?_,by omega,by omega⟩
    .rw [H4 h1];simp
    .rw [Nat.mod_eq_of_lt h1]
    .rw [H4 h1];rfl
  .rename_i h1;obtain⟨n,l',h3,h4,h5,h6,h7⟩:=aw f (k+1) _ l N m h;have hn:n≠0:=by omega
   have hge:128<=d.toNat % 128+128*n:=by omega
   refine⟨d.toNat % 128+128*n,l',?_,?_,?_,.inr (by omega),h7⟩
   .rw [Mv hge,show (d.toNat % 128+128*n) % 128+128=d.toNat by omega,show (d.toNat % 128+128*n) / 128=n by omega,h3];simp
   .rw [h4,Nat.add_mul,show 7*(k+1)=7*k+7 from by omega,Nat.pow_add];rw [show n*(2 ^ (7*k)*2 ^ 7)=128*n*2 ^ (7*k) from by rw [Nat.mul_comm (2 ^ (7*k)),<-Nat.mul_assoc,Nat.mul_comm n]];omega
   .rw [Mv hge,show (d.toNat % 128+128*n) / 128=n by omega,h5];simp only [List.length_cons];omega
def rdL:Nat->List UInt8->Option (List Int)
 |0,_=>none
 |f+1,[]=>some []
 |f+1,l=>match rdN 5 0 0 l with
  |some (n,m)=>(rdL f (l.drop m)).map ((n:Int)::·)
  |none=>none
def okN(n:Int):Prop:=0<=n/\n<=2147483647
def pL(l:List Int):List UInt8:=l.flatMap pN
theorem sn{n:Int}(h:okN n):pN n=IQ n.toNat:=by unfold pN;rw [if_pos (show 0<=n/\n<=2147483647 from h)]
theorem kT{n:Int}(h:okN n):0<(pN n).length:=by rw [sn h];exact GR _
theorem kX{n:Int}(h:okN n)(l:List UInt8):rdN 5 0 0 (pN n++l)=some (n.toNat,(pN n).length):=by
 rw [sn h,ny 5 0 0 n.toNat l (RM (by have:=h.2;omega)) (.inl rfl) (by have:=h.2;simp;omega)];simp
theorem kW:∀(l:List Int) (f:Nat),(∀n∈l,okN n)->(pL l).length<f->rdL f (pL l)=some l
 | [],f,_,h=>by
  obtain⟨f,rfl⟩:∃g,f=g+1:=⟨f-1,by omega⟩;rfl
 |n::l,f,hn,h=>by
  obtain⟨f,rfl⟩:∃g,f=g+1:=⟨f-1,by omega⟩;have h0:=hn n (by simp);have hp:=kT h0;have e:pL (n::l)=pN n++pL l:=by simp [pL]
  rw [e] at h ⊢;have hne:pN n++pL l≠[]:=by intro h;rw [List.append_eq_nil_iff] at h;rw [h.1] at hp;simp at hp
  rw [rdL.eq_3 _ _ (by simpa using hne),kX h0];simp only [List.drop_left];rw [kW l f (fun m hm=>hn m (by simp [hm])) (by rw [List.length_append] at h;omega)];simp only [Option.map_some,Int.toNat_of_nonneg h0.1]
theorem av:∀(f:Nat) (s:List UInt8) (l:List Int),rdL f s=some l->s=pL l/\∀n∈l,okN n
 |0,s,l,h=>by cases h
 |f+1,[],l,h=>by cases h;exact⟨rfl,by simp⟩
 |f+1,d::s,l,h=>by
  rw [rdL.eq_3 _ _ (by simp)] at h;split at h
  .rename_i n m hr;obtain⟨n',l',h1,h2,h3,_,h5⟩:=aw _ _ _ _ _ _ hr;simp only [Nat.mul_zero,Nat.pow_zero,Nat.mul_one,Nat.zero_add] at h2 h3;subst h2 h3;rw [Option.map_eq_some_iff] at h;obtain⟨l1,h6,rfl⟩:=h;rw [h1,List.drop_left] at h6;obtain⟨h7,h8⟩:=av f l' l1 h6;refine⟨?_,?_⟩
   .rw [h1,h7];simp only [pL,List.flatMap_cons];rw [sn ⟨by omega,by omega⟩];simp
   .intro x hx;rcases List.mem_cons.1 hx with rfl|hx
    .exact⟨by omega,by omega⟩
    .exact h8 x hx
  .cases h
def xv:Option (List Int)->List Int×Bool
 |some l=>(l,true)
 |none=>([],false)
theorem Wt{b:List UInt8}(hb:b.length<=1048576){G:List UInt8->Int->Option (Int×Int×Bool)}(hG:∀i:Int,i<2 ^ 62->G b i=some (gN b i))
 {F:(List Int×Int->Option (List Int×Bool))->List Int×Int->Option (List Int×Bool)}
 (hF:∀L acc i,F L (acc,i)=if i<(b.length:Int) then bd (G b i) fun x=>br (!x.2.2) (some ([],false)) (gd (acc.length+1<=lim) (L (acc++[x.1],x.2.1))) else some (acc,true)) :
 ∀(f i n:Nat) (acc:List Int),b.length<f+i->f<=n->acc.length<=i->i<=b.length->AT F n (acc,(i:Int))=some (match rdL f (b.drop i) with|some l=>(acc++l,true)|none=>([],false))
 |0,i,n,acc,h1,h2,h3,h4=>by omega
 |f+1,i,n,acc,h1,h2,h3,h4=>by
  obtain⟨n,rfl⟩:∃m,n=m+1:=⟨n-1,by omega⟩;rw [Bo,hF];by_cases hi:i<b.length
  .rw [if_pos (by omega),hG _ (by omega),AA];unfold gN;rw [if_pos (by omega),Int.toNat_natCast];have hne:b.drop i≠[]:=by intro h;rw [List.drop_eq_nil_iff] at h;omega
   rw [rdL.eq_3 _ _ (by simpa using hne)];cases hr:rdN 5 0 0 (b.drop i) with
   |none=>rfl
   |some p=>
    obtain⟨v,m⟩:=p;obtain⟨n',l',k1,k2,k3,_,_⟩:=aw _ _ _ _ _ _ hr;have hm:0<m:=by have:=GR n';omega
    have hmi:i+m<=b.length:=by
     have:=congrArg List.length k1;rw [List.length_drop,List.length_append] at this;omega
    simp only [jK,Ai,Ab];rw [A1 (by unfold lim;omega),Wt hb hG hF f (i+m) n (acc++[(v:Int)]) (by omega) (by omega) (by rw [List.length_append];simp;omega) hmi,<-List.drop_drop];cases hr2:rdL f ((b.drop i).drop m) with
    |none=>rfl
    |some l=>simp
  .rw [if_neg (by omega),List.drop_eq_nil_of_le (by omega)];simp [rdL]
theorem bT{b:List UInt8}(hb:b.length<=1048576):Gs b=some (xv (rdL (b.length+1) b)):=by
 unfold Gs;have:=Wt hb (G:=Ff) (F:=Ef b) (fun i hi=>iH (by omega) i hi) (fun L acc i=>by unfold Ef Hq;simp only [AV,AG];rfl) (b.length+1) 0 big [] (by omega) (by have:=QY;omega) (by simp) (by omega);refine Eq.trans this ?_;simp only [List.drop_zero,List.nil_append];cases rdL (b.length+1) b <;> rfl
theorem Z5{b:List UInt8}(hb:b.length<=1048576):mF b=some (xv (rdL (b.length+1) b)):=by
 unfold mF;have:=Wt hb (G:=dZ) (F:=TY b) (fun i hi=>fm (by omega) i) (fun L acc i=>by unfold TY da;simp only [AV,AG];rfl) (b.length+1) 0 big [] (by omega) (by have:=QY;omega) (by simp) (by omega);refine Eq.trans this ?_;simp only [List.drop_zero,List.nil_append];cases rdL (b.length+1) b <;> rfl
theorem Wr{l:List Int}(hl:l.length<=10000000){G:Int->Option (List UInt8)}(hG:∀n,G n=some (pN n))
 {F:(List UInt8×Int->Option (List UInt8))->List UInt8×Int->Option (List UInt8)}
 (hF:∀L acc i,F L (acc,i)=if i<(l.length:Int) then bd (at? l i) fun x=>bd (G x) fun y=>gd (acc.length+y.length<=lim) (L (acc++y,w64 (i+1))) else some acc) :
 ∀(f i n:Nat) (acc:List UInt8),l.length<f+i->f<=n->acc.length<=5*i->i<=l.length->AT F n (acc,(i:Int))=some (acc++pL (l.drop i))
 |0,i,n,acc,h1,h2,h3,h4=>by omega
 |f+1,i,n,acc,h1,h2,h3,h4=>by
  obtain⟨n,rfl⟩:∃m,n=m+1:=⟨n-1,by omega⟩;rw [Bo,hF];by_cases hi:i<l.length
  .rw [if_pos (by omega),Hn,List.getElem?_eq_getElem hi,AA,hG,AA];have:=kS l[i];rw [A1 (by unfold lim;omega),AP (by omega) (by omega)];have:=Wr hl hG hF f (i+1) n (acc++pN l[i]) (by omega) (by omega) (by rw [List.length_append];omega) hi;refine Eq.trans this ?_;rw [List.drop_eq_getElem_cons hi];simp only [pL,List.flatMap_cons,List.append_assoc]
  .rw [if_neg (by omega),List.drop_eq_nil_of_le (by omega)];simp [pL]
theorem bS{l:List Int}(hl:l.length<=10000000):Gr l=some (pL l):=by
 unfold Gr;have:=Wr hl (G:=Fg) (F:=Ee l) iI (fun L acc i=>by unfold Ee Hp;simp only [AV,AG]) (l.length+1) 0 big [] (by omega) (by have:=QY;omega) (by simp) (by omega);simpa using this
theorem Z6{l:List Int}(hl:l.length<=10000000):mM l=some (pL l):=by
 unfold mM;have:=Wr hl (G:=Tt) (F:=Tv l) H0 (fun L acc i=>by unfold Tv dy;simp only [AV,AG]) (l.length+1) 0 big [] (by omega) (by have:=QY;omega) (by simp) (by omega);simpa using this
def fld(n:Int):Bool:=decide (0<=n/\n<=9999)
@[simp] theorem yA(n:Int):KM n=some (fld n):=by unfold KM fld;simp
@[simp] theorem xP(n:Int):Kf n=some (fld n):=by unfold Kf fld;simp
end Lv.P
namespace Lv.P
open Go (IntKind BinOp UnOp)
@[simp] theorem xI(q:QS):Ok q q=some true:=by
 unfold Ok;simp [Bu]
end Lv.P
namespace Lv.P
open Go (IntKind BinOp UnOp)
def JY(v:Nat):Nat:=if v % 2=1 then (v / 2) ^^^ 3988292384 else v / 2
def JZ:Nat->Nat->Nat
 |0,v=>v
 |k+1,v=>JZ k (JY v)
def Fb:Nat->List UInt8->Nat
 |v,[]=>v
 |v,x::l=>Fb (JZ 8 (v ^^^ x.toNat)) l
def Gq(s:List UInt8):Nat:=Fb 4294967295 s ^^^ 4294967295
theorem MT{v:Nat}(h:v<2 ^ 32):JY v<2 ^ 32:=by
 unfold JY;split
 .exact Nat.xor_lt_two_pow (by omega) (by omega)
 .omega
theorem De:∀k {v:Nat},v<2 ^ 32->JZ k v<2 ^ 32
 |0,_,h=>h
 |k+1,_,h=>De k (MT h)
theorem Ja:∀(l:List UInt8) {v:Nat},v<2 ^ 32->Fb v l<2 ^ 32
 | [],_,h=>h
 |x::l,v,h=>Ja l (De 8 (Nat.xor_lt_two_pow h (by have:=x.toNat_lt;omega)))
theorem cT(s:List UInt8):Gq s<2 ^ 32:=Nat.xor_lt_two_pow (Ja s (by omega)) (by omega)
theorem JP{a b:Nat}(ha:a<2 ^ 63)(hb:b<2 ^ 63):NA (a:Int) (b:Int)=((a ^^^ b:Nat):Int):=by
 unfold NA;rw [BitVec.toNat_xor,GY ha,GY hb];have:a ^^^ b<2 ^ 63:=Nat.xor_lt_two_pow ha hb;rw [M1 (by omega) (by omega)]
theorem qD{a b:Nat}(ha:a<2 ^ 63)(hb:b<2 ^ 63):SG (a:Int) (b:Int)=((a &&& b:Nat):Int):=by
 unfold SG;rw [BitVec.toNat_and,GY ha,GY hb];have:a &&& b<2 ^ 63:=Nat.lt_of_le_of_lt Nat.and_le_left ha;rw [M1 (by omega) (by omega)]
theorem yk(a:Nat):BE (a:Int) 1=((a / 2:Nat):Int):=by
 unfold BE;have e:min (1:Int).toNat IntKind.i64.bits=1:=by simp [IntKind.bits]
 rw [e,Int.fdiv_eq_ediv_of_nonneg _ (by omega)];omega
theorem TD{γ:Type}{F:(Int×Int->Option γ)->Int×Int->Option γ}{G:Int->Option γ}
 (hF:∀L (v k:Nat),v<2 ^ 32->k<=8->F L ((v:Int),(k:Int))=if k<8 then L (((JY v:Nat):Int),((k+1:Nat):Int)) else G (v:Int)) :
 ∀(m k v n:Nat),k+m=8->m<n->v<2 ^ 32->AT F n ((v:Int),(k:Int))=G ((JZ m v:Nat):Int)
 |0,k,v,0,_,h,_=>by omega
 |0,k,v,n+1,hk,_,hv=>by rw [Bo,hF _ _ _ hv (by omega),if_neg (by omega)];rfl
 |m+1,k,v,0,_,h,_=>by omega
 |m+1,k,v,n+1,hk,h,hv=>by
  rw [Bo,hF _ _ _ hv (by omega),if_pos (by omega),TD hF m (k+1) _ n (by omega) (by omega) (MT hv)];rfl
theorem TC{s:List UInt8}{γ:Type}{F:(Int×Int->Option γ)->Int×Int->Option γ}{G:Int->Option γ}(hs:s.length<2 ^ 62)
 (hF:∀L (v i:Nat),v<2 ^ 32->i<=s.length->F L ((v:Int),(i:Int))=match s[i]? with|none=>G (v:Int)|some x=>L (((JZ 8 (v ^^^ x.toNat):Nat):Int),((i+1:Nat):Int))) :
 ∀(m i v n:Nat),i+m=s.length->m<n->v<2 ^ 32->AT F n ((v:Int),(i:Int))=G ((Fb v (s.drop i):Nat):Int)
 |0,i,v,0,_,h,_=>by omega
 |0,i,v,n+1,hi,_,hv=>by
  rw [Bo,hF _ _ _ hv (by omega),List.getElem?_eq_none (by omega),List.drop_eq_nil_of_le (by omega)];rfl
 |m+1,i,v,0,_,h,_=>by omega
 |m+1,i,v,n+1,hi,h,hv=>by
  have hlt:i<s.length:=by omega
  rw [Bo,hF _ _ _ hv (by omega),List.getElem?_eq_getElem hlt];dsimp only;rw [TC hs hF m (i+1) _ n (by omega) (by omega) (De 8 (Nat.xor_lt_two_pow hv (by have:=s[i].toNat_lt;omega))),List.drop_eq_getElem_cons hlt];rfl
theorem tL{s:List UInt8}(hs:s.length<2 ^ 62):NX s=some ((Gq s:Nat):Int):=by
 unfold NX;have:=TC (F:=IH s) (G:=fun v=>some (NA v 4294967295)) hs ?_ s.length 0 4294967295 big (by omega) (EA _ (by omega)) (by omega)
 .refine Eq.trans this ?_;have e:=JP (a:=Fb 4294967295 s) (b:=4294967295) (by have:=Ja s (v:=4294967295) (by omega);omega) (by omega);show some (NA _ ((4294967295:Nat):Int))=_;rw [List.drop_zero,e];rfl
 .intro L v i hv hi;unfold IH ND;simp only [AV,AG,Hn];by_cases h:i<s.length
  .rw [if_pos (by omega),List.getElem?_eq_getElem h,AA];dsimp only;have hx:=s[i].toNat_lt;rw [AP (by omega) (by omega),JP (by omega) (by omega)];have:=TD (F:=II L (i:Int)) (G:=fun v=>L (v,((i+1:Nat):Int))) ?_ 8 0 (v ^^^ s[i].toNat) big (by omega) (EA _ (by omega)) (Nat.xor_lt_two_pow hv (by omega))
   .exact this
   .intro L5 v k hv hk;unfold II IG NC;simp only [AV,AG];by_cases h8:k<8
    .rw [if_pos (by omega),if_pos h8];have e1:Int.tmod (v:Int) 2=((v % 2:Nat):Int):=by rw [Int.tmod_eq_emod_of_nonneg (by omega)];omega
     have e2:Int.tdiv (v:Int) 2=((v / 2:Nat):Int):=by rw [Int.tdiv_eq_ediv_of_nonneg (by omega)];omega
     rw [e1,e2,AP (by omega) (by omega),AP (n:=(k:Int)+1) (by omega) (by omega),Bu,show (3988292384:Int)=((3988292384:Nat):Int) from rfl,JP (by omega) (by omega)];unfold JY;by_cases ho:v % 2=1
     .rw [if_pos (by rw [ho];rfl),if_pos ho];rfl
     .rw [if_neg (by rw [beq_iff_eq];omega),if_neg ho];rfl
    .rw [if_neg (by omega),if_neg h8,AP (by omega) (by omega)];rfl
  .rw [if_neg (by omega),List.getElem?_eq_none (by omega)]
theorem ri{s:List UInt8}(hs:s.length<2 ^ 62):mN s=some ((Gq s:Nat):Int):=by
 unfold mN;have:=TC (F:=Tx s) (G:=fun v=>some (NA v 4294967295)) hs ?_ s.length 0 4294967295 big (by omega) (EA _ (by omega)) (by omega)
 .refine Eq.trans this ?_;have e:=JP (a:=Fb 4294967295 s) (b:=4294967295) (by have:=Ja s (v:=4294967295) (by omega);omega) (by omega);show some (NA _ ((4294967295:Nat):Int))=_;rw [List.drop_zero,e];rfl
 .intro L v i hv hi;unfold Tx eB;simp only [AV,AG,Hn];by_cases h:i<s.length
  .rw [if_pos (by omega),List.getElem?_eq_getElem h,AA];dsimp only;have hx:=s[i].toNat_lt;rw [AP (by omega) (by omega),JP (by omega) (by omega)];have:=TD (F:=Ty L (i:Int)) (G:=fun v=>L (v,((i+1:Nat):Int))) ?_ 8 0 (v ^^^ s[i].toNat) big (by omega) (EA _ (by omega)) (Nat.xor_lt_two_pow hv (by omega))
   .exact this
   .intro L5 v k hv hk;unfold Ty Tw eA;simp only [AV,AG];by_cases h8:k<8
    .rw [if_pos (by omega),if_pos h8];have e1:SG (v:Int) 1=((v % 2:Nat):Int):=by
      rw [show (1:Int)=((1:Nat):Int) from rfl,qD (by omega) (by omega),Nat.and_one_is_mod]
     rw [e1,yk,AP (n:=(k:Int)+1) (by omega) (by omega),Bu,show (3988292384:Int)=((3988292384:Nat):Int) from rfl,JP (by omega) (by omega)];unfold JY;by_cases ho:v % 2=1
     .rw [if_pos (by rw [ho];rfl),if_pos ho];rfl
     .rw [if_neg (by rw [beq_iff_eq];omega),if_neg ho];rfl
    .rw [if_neg (by omega),if_neg h8,AP (by omega) (by omega)];rfl
  .rw [if_neg (by omega),List.getElem?_eq_none (by omega)]
def four(c:Int):List UInt8:=[toB (BE c 24),toB (BE c 16),toB (BE c 8),toB c]
theorem LB(c:Int):(four c).length=4:=rfl
def uw(q:Int)(b:List UInt8):Prop:=(1<=q/\q<=1000000)/\(1<=b.length/\b.length<=60)
instance (q:Int) (b:List UInt8):Decidable (uw q b):=by unfold uw;infer_instance
def frT(q:Int)(b:List UInt8):List UInt8:=four ((Gq (pN q++b):Nat):Int)++(pN q++b)
def frB(q:Int)(b:List UInt8):List UInt8:=if uw q b then pN ((frT q b).length:Int)++frT q b else []
end Lv.P
namespace Lv.P
open Lv Go
theorem BR{α:Type}{l:List α}{i:Int}(h0:0<=i)(h1:i<l.length):∃x,at? l i=some x:=by
 obtain⟨n,rfl⟩:=Int.eq_ofNat_of_zero_le h0;exact⟨_,AX (by omega)⟩
theorem Fh{x:Int}(h0:0<=x)(h1:x<1152921504606846976):w64 (BE (IntKind.u64.wrap (w64 x)) 1)=x / 2:=by
 obtain⟨n,rfl⟩:=Int.eq_ofNat_of_zero_le h0;have e1:w64 (n:Int)=n:=AP (by omega) (by omega);have e2:IntKind.u64.wrap (n:Int)=n:=by
  have hh:IntKind.u64.wrap (n:Int)=(n:Int) % 2 ^ 64:=by simp [IntKind.wrap,IntKind.signed,IntKind.bits]
  rw [hh];omega
 rw [e1,e2,yk,AP (by omega) (by omega)];omega
def Ln{α:Type}(n:Nat)(x:Option (List α)):Prop:=∃r,x=some r/\r.length=n
theorem Bw(k:Nat)(h:k<2 ^ 64):k<big:=EA k h
theorem YL{l:List AD}{a b:Int}(h0:0<=a)(ha:a<=l.length)(hb:b<=l.length)(hl:l.length<1099511627776):Ln l.length (TO l a b):=by
 unfold TO;rw [AP (by omega) (by omega)];refine CS (fun x=>x.1.length=l.length/\a+1<=x.2/\x.2<=2*1099511627776) (fun x=>(b-x.2).toNat) (fun r:List AD=>r.length=l.length) ?_ big (l,a+1) ⟨rfl,by dsimp only;omega,by dsimp only;omega⟩ (Bw _ (by dsimp only;omega));rintro L ⟨v,i⟩ ⟨hv,hi,hi2⟩ ih;dsimp only at hv hi hi2 ih;unfold O4;dsimp only;rw [AV];split
 .rename_i hib;refine CS (fun x=>x.1.length=l.length/\a<=x.2/\x.2<=i) (fun x=>(x.2-a).toNat) (fun r:List AD=>r.length=l.length) ?_ big (v,i) ⟨hv,by dsimp only;omega,by dsimp only;omega⟩ (Bw _ (by dsimp only;omega));rintro L' ⟨u,j⟩ ⟨hu,hj,hj2⟩ ih';dsimp only at hu hj hj2 ih';have out:∀(u:List AD),u.length=l.length->∃r,O3 L i u=some r/\r.length=l.length:=by
   intro u hu;unfold O3;rw [AP (by omega) (by omega)];exact ih (u,i+1) ⟨hu,by dsimp only;omega,by dsimp only;omega⟩ (by dsimp only;omega)
  unfold O5;dsimp only;rw [AV];split
  .rename_i hja;have e1:w64 (j-1)=j-1:=AP (by omega) (by omega);obtain⟨x1,q1⟩:=BR (l:=u) (i:=j) (by omega) (by omega);obtain⟨x2,q2⟩:=BR (l:=u) (i:=j-1) (by omega) (by omega);obtain⟨c,hc,_⟩:=FN x1 x2;obtain⟨x3,q3⟩:=BR (l:=List.set u j.toNat x2) (i:=j-1) (by omega) (by rw [List.length_set];omega);simp only [e1,q1,q2,AA,hc,AG];unfold Km;rw [AV];split
   .simp only [e1,q1,q2,q3,AA];exact ih' (_,j-1) ⟨by simp only [List.length_set];exact hu,by dsimp only;omega,by dsimp only;omega⟩ (by dsimp only;omega)
   .rw [AG];exact out u hu
  .rw [AG];unfold Km;rw [Ad,AG];exact out u hu
 .exact⟨v,rfl,hv⟩
theorem OZ{l:List AD}{a b n:Int}(h0:0<=a)(h1:0<=b)(ha:a+n<=l.length)(hb:b+n<=l.length)(hl:l.length<1099511627776):Ln l.length (Xx l a b n):=by
 unfold Xx;refine CS (fun x=>x.1.length=l.length/\0<=x.2) (fun x=>(n-x.2).toNat) (fun r:List AD=>r.length=l.length) ?_ big (l,0) ⟨rfl,by dsimp only;omega⟩ (Bw _ (by dsimp only;omega));rintro L ⟨v,i⟩ ⟨hv,hi⟩ ih;dsimp only at hv hi ih;unfold dH;dsimp only;rw [AV];split
 .rename_i hin;have e1:w64 (a+i)=a+i:=AP (by omega) (by omega);have e2:w64 (b+i)=b+i:=AP (by omega) (by omega);have e3:w64 (i+1)=i+1:=AP (by omega) (by omega);obtain⟨x1,q1⟩:=BR (l:=v) (i:=a+i) (by omega) (by omega);obtain⟨x2,q2⟩:=BR (l:=v) (i:=b+i) (by omega) (by omega);obtain⟨x3,q3⟩:=BR (l:=List.set v (a+i).toNat x2) (i:=b+i) (by omega) (by rw [List.length_set];omega);simp only [e1,e2,e3,q1,q2,q3,AA];exact ih (_,i+1) ⟨by simp only [List.length_set];exact hv,by dsimp only;omega⟩ (by dsimp only;omega)
 .exact⟨v,rfl,hv⟩
theorem pQ{l:List AD}{a m b:Int}(h0:0<=a)(h1:a<m)(h2:m<b)(h3:b<=l.length)(hl:l.length<1099511627776):Ln l.length (mB l a m b):=by
 unfold mB;rw [AP (n:=m-a) (by omega) (by omega),AP (n:=b-m) (by omega) (by omega)];refine CS (fun x=>x.1.length=l.length/\0<x.2.1/\x.2.1<=m-a/\0<x.2.2/\x.2.2<=b-m) (fun x=>(x.2.1+x.2.2).toNat) (fun r:List AD=>r.length=l.length) ?_ big (l,m-a,b-m) ⟨rfl,by dsimp only;omega,by dsimp only;omega,by dsimp only;omega,by dsimp only;omega⟩ (Bw _ (by dsimp only;omega));rintro L ⟨v,i,j⟩ ⟨hv,hi,hi2,hj,hj2⟩ ih;dsimp only at hv hi hi2 hj hj2 ih;unfold dJ;dsimp only;have e1:w64 (m-i)=m-i:=AP (by omega) (by omega);have e2:w64 (w64 (m+j)-i)=m+j-i:=by rw [AP (n:=m+j) (by omega) (by omega)];exact AP (by omega) (by omega)
 by_cases hij:i=j
 .subst hij;rw [show (i != i)=false from by simp,Ad,AG];unfold dI;obtain⟨r,hr,hr2⟩:=OZ (l:=v) (a:=m-i) (b:=m) (n:=i) (by omega) (by omega) (by omega) (by omega) (by omega);dsimp only;rw [e1,hr,AA];exact⟨r,rfl,hr2.trans hv⟩
 .rw [show (i != j)=true from by simp [hij],Ab,AV];split
  .obtain⟨r,hr,hr2⟩:=OZ (l:=v) (a:=m-i) (b:=m) (n:=j) (by omega) (by omega) (by omega) (by omega) (by omega);rw [e1,hr,AA,AP (n:=i-j) (by omega) (by omega)];exact ih (r,i-j,j) ⟨hr2.trans hv,by dsimp only;omega,by dsimp only;omega,by dsimp only;omega,by dsimp only;omega⟩ (by dsimp only;omega)
  .obtain⟨r,hr,hr2⟩:=OZ (l:=v) (a:=m-i) (b:=m+j-i) (n:=i) (by omega) (by omega) (by omega) (by omega) (by omega);rw [e1,e2,hr,AA,AP (n:=j-i) (by omega) (by omega)];exact ih (r,i,j-i) ⟨hr2.trans hv,by dsimp only;omega,by dsimp only;omega,by dsimp only;omega,by dsimp only;omega⟩ (by dsimp only;omega)
def MP(k:Nat)(r:DX):Prop:=
 ∀(l:List AD) (a m b:Int),0<=a->a<m->m<b->b<=l.length->l.length<1099511627776->b-a<=2 ^ k->Ln l.length (r.d (l,a,m,b,(),()))
theorem Xd{k:Nat}{r:DX}(hr:MP k r){l:List AD}{a m b s:Int}(h0:0<=a)(h1:a<m)(h2:m<b)(h3:b<=l.length)(hl:l.length<1099511627776)(hk:b-a<=2 ^ (k+1))
 (g1:a<=s) (g2:s<=(a+b) / 2) (g3:s<=m) (g4:(a+b) / 2+m-b<=s):Ln l.length (Qi r l a m b s):=by
 have e0:w64 (BE (IntKind.u64.wrap (w64 (a+b))) 1)=(a+b) / 2:=Fh (by omega) (by omega);have e1:w64 (w64 ((a+b) / 2+m)-s)=(a+b) / 2+m-s:=by rw [AP (n:=(a+b) / 2+m) (by omega) (by omega)];exact AP (by omega) (by omega)
 have hk2:(2:Int) ^ (k+1)=2*2 ^ k:=by rw [Int.pow_succ];omega
 have hj16:∀v:List AD,v.length=l.length->Ln l.length (Mc r a m b s v):=by
  intro v hv;unfold Mc Ql;rw [e0,e1,AV];split
  .rw [AG,AV];split
   .obtain⟨x,hx,hx2⟩:Ln v.length (Me r v ((a+b) / 2) ((a+b) / 2+m-s) b):=hr v ((a+b) / 2) ((a+b) / 2+m-s) b (by omega) (by omega) (by omega) (by omega) (by omega) (by omega);rw [hx,AA];exact⟨x,rfl,hx2.trans hv⟩
   .exact⟨v,rfl,hv⟩
  .rw [AG,Ad];exact⟨v,rfl,hv⟩
 have hj14:∀v:List AD,v.length=l.length->Ln l.length (Mb r a m b s v):=by
  intro v hv;unfold Mb Qk;rw [e0,AV];split
  .rw [AG,AV];split
   .obtain⟨x,hx,hx2⟩:Ln v.length (Me r v a s ((a+b) / 2)):=hr v a s ((a+b) / 2) (by omega) (by omega) (by omega) (by omega) (by omega) (by omega);rw [hx,AA,AG];exact hj16 x (hx2.trans hv)
   .rw [AG];exact hj16 v hv
  .rw [AG,Ad,AG];exact hj16 v hv
 unfold Qi Qj;rw [e0,e1,AV];split
 .rw [AG,AV];split
  .obtain⟨x,hx,hx2⟩:=pQ (l:=l) (a:=s) (m:=m) (b:=(a+b) / 2+m-s) (by omega) (by omega) (by omega) (by omega) (by omega);rw [hx,AA,AG];exact hj14 x hx2
  .rw [AG];exact hj14 l rfl
 .rw [AG,Ad,AG];exact hj14 l rfl
theorem iK{k:Nat}{r:DX}(hr:MP k r):MP (k+1) (.of (Um r)):=by
 intro l a m b h0 h1 h2 h3 hl hk;show Ln l.length (jC r l a m b);have e0:w64 (BE (IntKind.u64.wrap (w64 (a+b))) 1)=(a+b) / 2:=Fh (by omega) (by omega);unfold jC;rw [AP (n:=m-a) (by omega) (by omega)];by_cases c1:m-a=1
 .rw [show (m-a==1)=true from by simp [c1],Ab];refine CS (fun x=>m<=x.1/\x.1<=x.2/\x.2<=b) (fun x=>(x.2-x.1).toNat) (fun r:List AD=>r.length=l.length) ?_ big (m,b) ⟨by dsimp only;omega,by dsimp only;omega,by dsimp only;omega⟩ (Bw _ (by dsimp only;omega));rintro L ⟨i,j⟩ ⟨hi,hij,hj⟩ ih;dsimp only at hi hij hj ih;unfold dO;dsimp only;rw [AV];split
  .have eh:w64 (BE (IntKind.u64.wrap (w64 (i+j))) 1)=(i+j) / 2:=Fh (by omega) (by omega);have eh1:w64 ((i+j) / 2+1)=(i+j) / 2+1:=AP (by omega) (by omega);obtain⟨x1,q1⟩:=BR (l:=l) (i:=(i+j) / 2) (by omega) (by omega);obtain⟨x2,q2⟩:=BR (l:=l) (i:=a) (by omega) (by omega);obtain⟨c,hc,_⟩:=FN x1 x2;simp only [eh,eh1,q1,q2,AA,hc];rw [AV];split
   .exact ih ((i+j) / 2+1,j) ⟨by dsimp only;omega,by dsimp only;omega,by dsimp only;omega⟩ (by dsimp only;omega)
   .exact ih (i,(i+j) / 2) ⟨by dsimp only;omega,by dsimp only;omega,by dsimp only;omega⟩ (by dsimp only;omega)
  .rw [AG];unfold dK;refine CS (fun x=>x.1.length=l.length/\a<=x.2) (fun x=>(i-1-x.2).toNat) (fun r:List AD=>r.length=l.length) ?_ big (l,a) ⟨rfl,by dsimp only;omega⟩ (Bw _ (by dsimp only;omega));rintro L' ⟨u,q⟩ ⟨hu,hq⟩ ih';dsimp only at hu hq ih';unfold dP O6;dsimp only;rw [AP (n:=i-1) (by omega) (by omega),AV];split
   .have e1:w64 (q+1)=q+1:=AP (by omega) (by omega);obtain⟨x1,q1⟩:=BR (l:=u) (i:=q+1) (by omega) (by omega);obtain⟨x2,q2⟩:=BR (l:=u) (i:=q) (by omega) (by omega);obtain⟨x3,q3⟩:=BR (l:=List.set u q.toNat x1) (i:=q+1) (by omega) (by rw [List.length_set];omega);simp only [e1,q1,q2,q3,AA];exact ih' (_,q+1) ⟨by simp only [List.length_set];exact hu,by dsimp only;omega⟩ (by dsimp only;omega)
   .rw [AG];exact⟨u,rfl,hu⟩
 .rw [show (m-a==1)=false from by simp [c1],Ad,AG];unfold dL;rw [AP (n:=b-m) (by omega) (by omega)];by_cases c2:b-m=1
  .rw [show (b-m==1)=true from by simp [c2],Ab];refine CS (fun x=>a<=x.1/\x.1<=x.2/\x.2<=m) (fun x=>(x.2-x.1).toNat) (fun r:List AD=>r.length=l.length) ?_ big (a,m) ⟨by dsimp only;omega,by dsimp only;omega,by dsimp only;omega⟩ (Bw _ (by dsimp only;omega));rintro L ⟨i,j⟩ ⟨hi,hij,hj⟩ ih;dsimp only at hi hij hj ih;unfold dQ;dsimp only;rw [AV];split
   .have eh:w64 (BE (IntKind.u64.wrap (w64 (i+j))) 1)=(i+j) / 2:=Fh (by omega) (by omega);have eh1:w64 ((i+j) / 2+1)=(i+j) / 2+1:=AP (by omega) (by omega);obtain⟨x1,q1⟩:=BR (l:=l) (i:=(i+j) / 2) (by omega) (by omega);obtain⟨x2,q2⟩:=BR (l:=l) (i:=m) (by omega) (by omega);obtain⟨c,hc,_⟩:=FN x2 x1;simp only [eh,eh1,q1,q2,AA,hc];cases hcc:decide (c<0)
    .rw [show (!false)=true from rfl,Ab];exact ih ((i+j) / 2+1,j) ⟨by dsimp only;omega,by dsimp only;omega,by dsimp only;omega⟩ (by dsimp only;omega)
    .rw [show (!true)=false from rfl,Ad];exact ih (i,(i+j) / 2) ⟨by dsimp only;omega,by dsimp only;omega,by dsimp only;omega⟩ (by dsimp only;omega)
   .rw [AG];unfold dM;refine CS (fun x=>x.1.length=l.length/\x.2<=m/\i<=x.2) (fun x=>(x.2-i).toNat) (fun r:List AD=>r.length=l.length) ?_ big (l,m) ⟨rfl,by dsimp only;omega,by dsimp only;omega⟩ (Bw _ (by dsimp only;omega));rintro L' ⟨u,q⟩ ⟨hu,hq,hq2⟩ ih';dsimp only at hu hq hq2 ih';unfold dR O6;dsimp only;rw [AV];split
    .have e1:w64 (q-1)=q-1:=AP (by omega) (by omega);obtain⟨x1,q1⟩:=BR (l:=u) (i:=q-1) (by omega) (by omega);obtain⟨x2,q2⟩:=BR (l:=u) (i:=q) (by omega) (by omega);obtain⟨x3,q3⟩:=BR (l:=List.set u q.toNat x1) (i:=q-1) (by omega) (by rw [List.length_set];omega);simp only [e1,q1,q2,q3,AA];exact ih' (_,q-1) ⟨by simp only [List.length_set];exact hu,by dsimp only;omega,by dsimp only;omega⟩ (by dsimp only;omega)
    .rw [AG];exact⟨u,rfl,hu⟩
  .rw [show (b-m==1)=false from by simp [c2],Ad,AG];have key:∀s t:Int,a<=s->s<=t->t<=(a+b) / 2->t<=m->(a+b) / 2+m-b<=s->Ln l.length (Ma r l a m b (s,t)):=by
    intro s t p1 p2 p3 p4 p5;unfold Ma;refine CS (fun x=>a<=x.1/\x.1<=x.2/\x.2<=(a+b) / 2/\x.2<=m/\(a+b) / 2+m-b<=x.1) (fun x=>(x.2-x.1).toNat) (fun r:List AD=>r.length=l.length) ?_ big (s,t) ⟨p1,p2,p3,p4,p5⟩ (Bw _ (by dsimp only;omega));rintro L ⟨i,j⟩ ⟨g1,g2,g3,g4,g5⟩ ih;dsimp only at g1 g2 g3 g4 g5 ih;unfold Xy;dsimp only;rw [AV];split
    .have eh:w64 (BE (IntKind.u64.wrap (w64 (i+j))) 1)=(i+j) / 2:=Fh (by omega) (by omega);have eh1:w64 ((i+j) / 2+1)=(i+j) / 2+1:=AP (by omega) (by omega);have ep:w64 (w64 (w64 ((a+b) / 2+m)-1)-(i+j) / 2)=(a+b) / 2+m-1-(i+j) / 2:=by
      rw [AP (n:=(a+b) / 2+m) (by omega) (by omega),AP (n:=(a+b) / 2+m-1) (by omega) (by omega)];exact AP (by omega) (by omega)
     obtain⟨x1,q1⟩:=BR (l:=l) (i:=(i+j) / 2) (by omega) (by omega);obtain⟨x2,q2⟩:=BR (l:=l) (i:=(a+b) / 2+m-1-(i+j) / 2) (by omega) (by omega);obtain⟨c,hc,_⟩:=FN x2 x1;simp only [e0,eh,eh1,ep,q1,q2,AA,hc];cases hcc:decide (c<0)
     .rw [show (!false)=true from rfl,Ab];exact ih ((i+j) / 2+1,j) ⟨by dsimp only;omega,by dsimp only;omega,by dsimp only;omega,by dsimp only;omega,by dsimp only;omega⟩ (by dsimp only;omega)
     .rw [show (!true)=false from rfl,Ad];exact ih (i,(i+j) / 2) ⟨by dsimp only;omega,by dsimp only;omega,by dsimp only;omega,by dsimp only;omega,by dsimp only;omega⟩ (by dsimp only;omega)
    .rw [AG];exact Xd hr h0 h1 h2 h3 hl hk g1 (by omega) (by omega) g5
   unfold dN;rw [e0,AV];split
   .rw [AG,AP (n:=(a+b) / 2+m) (by omega) (by omega),AP (n:=(a+b) / 2+m-b) (by omega) (by omega)];exact key _ _ (by omega) (by omega) (by omega) (by omega) (by omega)
   .rw [AG];exact key _ _ (by omega) (by omega) (by omega) (by omega) (by omega)
theorem Yk:∀k,MP k (GG k)
 |0=>by
  intro l a m b h0 h1 h2 h3 hl hk;have:(2:Int) ^ 0=1:=rfl;omega
 |k+1=>iK (Yk k)
theorem Rv{l:List AD}{a m b:Int}(h0:0<=a)(h1:a<m)(h2:m<b)(h3:b<=l.length)(hl:l.length<=40):Ln l.length (qX l a m b):=
 Yk 7 l a m b h0 h1 h2 h3 (by omega) (by have:(2:Int) ^ 7=128:=rfl;omega)
theorem XG{l:List AD}(hl:l.length<=40):Ln l.length (Xz l):=by
 unfold Xz mC;have hl3:∀v:List AD,v.length=l.length->Ln l.length (AT (O8 (l.length:Int)) big (v,20)):=by
  intro v hv;refine CS (fun x=>x.1.length=l.length/\(x.2=20\/x.2=40)) (fun x=>(40-x.2).toNat) (fun r:List AD=>r.length=l.length) ?_ big (v,20) ⟨hv,.inl rfl⟩ (Bw _ (by dsimp only;omega));rintro L ⟨u,s⟩ ⟨hu,hs⟩ ih;dsimp only at hu hs ih;unfold O8;dsimp only;rw [AV];split
  .have hs20:s=20:=by omega
   subst hs20;have out:∀w:List AD,w.length=l.length->Ln l.length (O7 L 20 w):=by
    intro w hw;unfold O7;rw [AP (by omega) (by omega)];exact ih (w,20*2) ⟨hw,.inr rfl⟩ (by dsimp only;omega)
   rw [AP (n:=2*20) (by omega) (by omega)];refine CS (fun x=>x.1.length=l.length/\x.2.2=x.2.1+40/\(x.2.1=0\/x.2.1=40)) (fun x=>(40-x.2.1).toNat) (fun r:List AD=>r.length=l.length) ?_ big (u,0,2*20) ⟨hu,by dsimp only;omega,.inl rfl⟩ (Bw _ (by dsimp only;omega));rintro L' ⟨w,a,b⟩ ⟨hw,hab,ha⟩ ih';dsimp only at hw hab ha ih';unfold dT;dsimp only;rw [AV];split
   .obtain⟨x,hx,hx2⟩:=Rv (l:=w) (a:=a) (m:=a+20) (b:=b) (by omega) (by omega) (by omega) (by omega) (by omega);rw [AP (n:=a+20) (by omega) (by omega),hx,AA,AP (n:=2*20) (by omega) (by omega),AP (n:=b+2*20) (by omega) (by omega)];exact ih' (x,b,b+2*20) ⟨hx2.trans hw,by dsimp only;omega,by dsimp only;omega⟩ (by dsimp only;omega)
   .rw [AG];unfold dS;dsimp only;rw [AP (n:=a+20) (by omega) (by omega),AV];split
    .obtain⟨x,hx,hx2⟩:=Rv (l:=w) (a:=a) (m:=a+20) (b:=(l.length:Int)) (by omega) (by omega) (by omega) (by omega) (by omega);rw [hx,AA,AG];exact out x (hx2.trans hw)
    .rw [AG];exact out w hw
  .exact⟨u,rfl,hu⟩
 have key:Ln l.length (AT (Kn (l.length:Int)) big (l,0,20)):=by
  refine CS (fun x=>x.1.length=l.length/\0<=x.2.1/\x.2.1<=(l.length:Int)/\x.2.2=x.2.1+20) (fun x=>(60-x.2.1).toNat) (fun r:List AD=>r.length=l.length) ?_ big (l,0,20) ⟨rfl,by dsimp only;omega,by dsimp only;omega,by dsimp only;omega⟩ (Bw _ (by dsimp only;omega));rintro L ⟨u,a,b⟩ ⟨hu,ha,ha2,hab⟩ ih;dsimp only at hu ha ha2 hab ih;unfold Kn;dsimp only;rw [AV];split
  .obtain⟨x,hx,hx2⟩:=YL (l:=u) (a:=a) (b:=b) (by omega) (by omega) (by omega) (by omega);rw [hx,AA,AP (n:=b+20) (by omega) (by omega)];exact ih (x,b,b+20) ⟨hx2.trans hu,by dsimp only;omega,by dsimp only;omega,rfl⟩ (by dsimp only;omega)
  .rw [AG];unfold TP;dsimp only;obtain⟨x,hx,hx2⟩:=YL (l:=u) (a:=a) (b:=(l.length:Int)) (by omega) (by omega) (by omega) (by omega);rw [hx,AA];exact hl3 x (hx2.trans hu)
 obtain⟨x,hx,hx2⟩:=key;rw [hx,AA];exact⟨x,rfl,hx2⟩
theorem nV{l:List AN}{a b:Int}(h0:0<=a)(ha:a<=l.length)(hb:b<=l.length)(hl:l.length<1099511627776):Ln l.length (Rb l a b):=by
 unfold Rb;rw [AP (by omega) (by omega)];refine CS (fun x=>x.1.length=l.length/\a+1<=x.2/\x.2<=2*1099511627776) (fun x=>(b-x.2).toNat) (fun r:List AN=>r.length=l.length) ?_ big (l,a+1) ⟨rfl,by dsimp only;omega,by dsimp only;omega⟩ (Bw _ (by dsimp only;omega));rintro L ⟨v,i⟩ ⟨hv,hi,hi2⟩ ih;dsimp only at hv hi hi2 ih;unfold On;dsimp only;rw [AV];split
 .rename_i hib;refine CS (fun x=>x.1.length=l.length/\a<=x.2/\x.2<=i) (fun x=>(x.2-a).toNat) (fun r:List AN=>r.length=l.length) ?_ big (v,i) ⟨hv,by dsimp only;omega,by dsimp only;omega⟩ (Bw _ (by dsimp only;omega));rintro L' ⟨u,j⟩ ⟨hu,hj,hj2⟩ ih';dsimp only at hu hj hj2 ih';have out:∀(u:List AN),u.length=l.length->∃r,Om L i u=some r/\r.length=l.length:=by
   intro u hu;unfold Om;rw [AP (by omega) (by omega)];exact ih (u,i+1) ⟨hu,by dsimp only;omega,by dsimp only;omega⟩ (by dsimp only;omega)
  unfold Oo;dsimp only;rw [AV];split
  .rename_i hja;have e1:w64 (j-1)=j-1:=AP (by omega) (by omega);obtain⟨x1,q1⟩:=BR (l:=u) (i:=j) (by omega) (by omega);obtain⟨x2,q2⟩:=BR (l:=u) (i:=j-1) (by omega) (by omega);obtain⟨c,hc,_⟩:=EV x1 x2;obtain⟨x3,q3⟩:=BR (l:=List.set u j.toNat x2) (i:=j-1) (by omega) (by rw [List.length_set];omega);simp only [e1,q1,q2,AA,hc,AG];unfold Kg;rw [AV];split
   .simp only [e1,q1,q2,q3,AA];exact ih' (_,j-1) ⟨by simp only [List.length_set];exact hu,by dsimp only;omega,by dsimp only;omega⟩ (by dsimp only;omega)
   .rw [AG];exact out u hu
  .rw [AG];unfold Kg;rw [Ad,AG];exact out u hu
 .exact⟨v,rfl,hv⟩
theorem XI{l:List AN}{a b n:Int}(h0:0<=a)(h1:0<=b)(ha:a+n<=l.length)(hb:b+n<=l.length)(hl:l.length<1099511627776):Ln l.length (Xu l a b n):=by
 unfold Xu;refine CS (fun x=>x.1.length=l.length/\0<=x.2) (fun x=>(n-x.2).toNat) (fun r:List AN=>r.length=l.length) ?_ big (l,0) ⟨rfl,by dsimp only;omega⟩ (Bw _ (by dsimp only;omega));rintro L ⟨v,i⟩ ⟨hv,hi⟩ ih;dsimp only at hv hi ih;unfold cZ;dsimp only;rw [AV];split
 .rename_i hin;have e1:w64 (a+i)=a+i:=AP (by omega) (by omega);have e2:w64 (b+i)=b+i:=AP (by omega) (by omega);have e3:w64 (i+1)=i+1:=AP (by omega) (by omega);obtain⟨x1,q1⟩:=BR (l:=v) (i:=a+i) (by omega) (by omega);obtain⟨x2,q2⟩:=BR (l:=v) (i:=b+i) (by omega) (by omega);obtain⟨x3,q3⟩:=BR (l:=List.set v (a+i).toNat x2) (i:=b+i) (by omega) (by rw [List.length_set];omega);simp only [e1,e2,e3,q1,q2,q3,AA];exact ih (_,i+1) ⟨by simp only [List.length_set];exact hv,by dsimp only;omega⟩ (by dsimp only;omega)
 .exact⟨v,rfl,hv⟩
theorem vV{l:List AN}{a m b:Int}(h0:0<=a)(h1:a<m)(h2:m<b)(h3:b<=l.length)(hl:l.length<1099511627776):Ln l.length (ll l a m b):=by
 unfold ll;rw [AP (n:=m-a) (by omega) (by omega),AP (n:=b-m) (by omega) (by omega)];refine CS (fun x=>x.1.length=l.length/\0<x.2.1/\x.2.1<=m-a/\0<x.2.2/\x.2.2<=b-m) (fun x=>(x.2.1+x.2.2).toNat) (fun r:List AN=>r.length=l.length) ?_ big (l,m-a,b-m) ⟨rfl,by dsimp only;omega,by dsimp only;omega,by dsimp only;omega,by dsimp only;omega⟩ (Bw _ (by dsimp only;omega));rintro L ⟨v,i,j⟩ ⟨hv,hi,hi2,hj,hj2⟩ ih;dsimp only at hv hi hi2 hj hj2 ih;unfold ch;dsimp only;have e1:w64 (m-i)=m-i:=AP (by omega) (by omega);have e2:w64 (w64 (m+j)-i)=m+j-i:=by rw [AP (n:=m+j) (by omega) (by omega)];exact AP (by omega) (by omega)
 by_cases hij:i=j
 .subst hij;rw [show (i != i)=false from by simp,Ad,AG];unfold cg;obtain⟨r,hr,hr2⟩:=XI (l:=v) (a:=m-i) (b:=m) (n:=i) (by omega) (by omega) (by omega) (by omega) (by omega);dsimp only;rw [e1,hr,AA];exact⟨r,rfl,hr2.trans hv⟩
 .rw [show (i != j)=true from by simp [hij],Ab,AV];split
  .obtain⟨r,hr,hr2⟩:=XI (l:=v) (a:=m-i) (b:=m) (n:=j) (by omega) (by omega) (by omega) (by omega) (by omega);rw [e1,hr,AA,AP (n:=i-j) (by omega) (by omega)];exact ih (r,i-j,j) ⟨hr2.trans hv,by dsimp only;omega,by dsimp only;omega,by dsimp only;omega,by dsimp only;omega⟩ (by dsimp only;omega)
  .obtain⟨r,hr,hr2⟩:=XI (l:=v) (a:=m-i) (b:=m+j-i) (n:=i) (by omega) (by omega) (by omega) (by omega) (by omega);rw [e1,e2,hr,AA,AP (n:=j-i) (by omega) (by omega)];exact ih (r,i,j-i) ⟨hr2.trans hv,by dsimp only;omega,by dsimp only;omega,by dsimp only;omega,by dsimp only;omega⟩ (by dsimp only;omega)
def SJ(k:Nat)(r:DW):Prop:=
 ∀(l:List AN) (a m b:Int),0<=a->a<m->m<b->b<=l.length->l.length<1099511627776->b-a<=2 ^ k->Ln l.length (r.d (l,a,m,b,(),()))
theorem iJ{k:Nat}{r:DW}(hr:SJ k r){l:List AN}{a m b s:Int}(h0:0<=a)(h1:a<m)(h2:m<b)(h3:b<=l.length)(hl:l.length<1099511627776)(hk:b-a<=2 ^ (k+1))
 (g1:a<=s) (g2:s<=(a+b) / 2) (g3:s<=m) (g4:(a+b) / 2+m-b<=s):Ln l.length (Qe r l a m b s):=by
 have e0:w64 (BE (IntKind.u64.wrap (w64 (a+b))) 1)=(a+b) / 2:=Fh (by omega) (by omega);have e1:w64 (w64 ((a+b) / 2+m)-s)=(a+b) / 2+m-s:=by rw [AP (n:=(a+b) / 2+m) (by omega) (by omega)];exact AP (by omega) (by omega)
 have hk2:(2:Int) ^ (k+1)=2*2 ^ k:=by rw [Int.pow_succ];omega
 have hj16:∀v:List AN,v.length=l.length->Ln l.length (MY r a m b s v):=by
  intro v hv;unfold MY Qh;rw [e0,e1,AV];split
  .rw [AG,AV];split
   .obtain⟨x,hx,hx2⟩:Ln v.length (MZ r v ((a+b) / 2) ((a+b) / 2+m-s) b):=hr v ((a+b) / 2) ((a+b) / 2+m-s) b (by omega) (by omega) (by omega) (by omega) (by omega) (by omega);rw [hx,AA];exact⟨x,rfl,hx2.trans hv⟩
   .exact⟨v,rfl,hv⟩
  .rw [AG,Ad];exact⟨v,rfl,hv⟩
 have hj14:∀v:List AN,v.length=l.length->Ln l.length (MX r a m b s v):=by
  intro v hv;unfold MX Qg;rw [e0,AV];split
  .rw [AG,AV];split
   .obtain⟨x,hx,hx2⟩:Ln v.length (MZ r v a s ((a+b) / 2)):=hr v a s ((a+b) / 2) (by omega) (by omega) (by omega) (by omega) (by omega) (by omega);rw [hx,AA,AG];exact hj16 x (hx2.trans hv)
   .rw [AG];exact hj16 v hv
  .rw [AG,Ad,AG];exact hj16 v hv
 unfold Qe Qf;rw [e0,e1,AV];split
 .rw [AG,AV];split
  .obtain⟨x,hx,hx2⟩:=vV (l:=l) (a:=s) (m:=m) (b:=(a+b) / 2+m-s) (by omega) (by omega) (by omega) (by omega) (by omega);rw [hx,AA,AG];exact hj14 x hx2
  .rw [AG];exact hj14 l rfl
 .rw [AG,Ad,AG];exact hj14 l rfl
theorem pb{k:Nat}{r:DW}(hr:SJ k r):SJ (k+1) (.of (Ul r)):=by
 intro l a m b h0 h1 h2 h3 hl hk;show Ln l.length (jB r l a m b);have e0:w64 (BE (IntKind.u64.wrap (w64 (a+b))) 1)=(a+b) / 2:=Fh (by omega) (by omega);unfold jB;rw [AP (n:=m-a) (by omega) (by omega)];by_cases c1:m-a=1
 .rw [show (m-a==1)=true from by simp [c1],Ab];refine CS (fun x=>m<=x.1/\x.1<=x.2/\x.2<=b) (fun x=>(x.2-x.1).toNat) (fun r:List AN=>r.length=l.length) ?_ big (m,b) ⟨by dsimp only;omega,by dsimp only;omega,by dsimp only;omega⟩ (Bw _ (by dsimp only;omega));rintro L ⟨i,j⟩ ⟨hi,hij,hj⟩ ih;dsimp only at hi hij hj ih;unfold cu;dsimp only;rw [AV];split
  .have eh:w64 (BE (IntKind.u64.wrap (w64 (i+j))) 1)=(i+j) / 2:=Fh (by omega) (by omega);have eh1:w64 ((i+j) / 2+1)=(i+j) / 2+1:=AP (by omega) (by omega);obtain⟨x1,q1⟩:=BR (l:=l) (i:=(i+j) / 2) (by omega) (by omega);obtain⟨x2,q2⟩:=BR (l:=l) (i:=a) (by omega) (by omega);obtain⟨c,hc,_⟩:=EV x1 x2;simp only [eh,eh1,q1,q2,AA,hc];rw [AV];split
   .exact ih ((i+j) / 2+1,j) ⟨by dsimp only;omega,by dsimp only;omega,by dsimp only;omega⟩ (by dsimp only;omega)
   .exact ih (i,(i+j) / 2) ⟨by dsimp only;omega,by dsimp only;omega,by dsimp only;omega⟩ (by dsimp only;omega)
  .rw [AG];unfold cj;refine CS (fun x=>x.1.length=l.length/\a<=x.2) (fun x=>(i-1-x.2).toNat) (fun r:List AN=>r.length=l.length) ?_ big (l,a) ⟨rfl,by dsimp only;omega⟩ (Bw _ (by dsimp only;omega));rintro L' ⟨u,q⟩ ⟨hu,hq⟩ ih';dsimp only at hu hq ih';unfold cw Oq;dsimp only;rw [AP (n:=i-1) (by omega) (by omega),AV];split
   .have e1:w64 (q+1)=q+1:=AP (by omega) (by omega);obtain⟨x1,q1⟩:=BR (l:=u) (i:=q+1) (by omega) (by omega);obtain⟨x2,q2⟩:=BR (l:=u) (i:=q) (by omega) (by omega);obtain⟨x3,q3⟩:=BR (l:=List.set u q.toNat x1) (i:=q+1) (by omega) (by rw [List.length_set];omega);simp only [e1,q1,q2,q3,AA];exact ih' (_,q+1) ⟨by simp only [List.length_set];exact hu,by dsimp only;omega⟩ (by dsimp only;omega)
   .rw [AG];exact⟨u,rfl,hu⟩
 .rw [show (m-a==1)=false from by simp [c1],Ad,AG];unfold ck;rw [AP (n:=b-m) (by omega) (by omega)];by_cases c2:b-m=1
  .rw [show (b-m==1)=true from by simp [c2],Ab];refine CS (fun x=>a<=x.1/\x.1<=x.2/\x.2<=m) (fun x=>(x.2-x.1).toNat) (fun r:List AN=>r.length=l.length) ?_ big (a,m) ⟨by dsimp only;omega,by dsimp only;omega,by dsimp only;omega⟩ (Bw _ (by dsimp only;omega));rintro L ⟨i,j⟩ ⟨hi,hij,hj⟩ ih;dsimp only at hi hij hj ih;unfold cy;dsimp only;rw [AV];split
   .have eh:w64 (BE (IntKind.u64.wrap (w64 (i+j))) 1)=(i+j) / 2:=Fh (by omega) (by omega);have eh1:w64 ((i+j) / 2+1)=(i+j) / 2+1:=AP (by omega) (by omega);obtain⟨x1,q1⟩:=BR (l:=l) (i:=(i+j) / 2) (by omega) (by omega);obtain⟨x2,q2⟩:=BR (l:=l) (i:=m) (by omega) (by omega);obtain⟨c,hc,_⟩:=EV x2 x1;simp only [eh,eh1,q1,q2,AA,hc];cases hcc:decide (c<0)
    .rw [show (!false)=true from rfl,Ab];exact ih ((i+j) / 2+1,j) ⟨by dsimp only;omega,by dsimp only;omega,by dsimp only;omega⟩ (by dsimp only;omega)
    .rw [show (!true)=false from rfl,Ad];exact ih (i,(i+j) / 2) ⟨by dsimp only;omega,by dsimp only;omega,by dsimp only;omega⟩ (by dsimp only;omega)
   .rw [AG];unfold cl;refine CS (fun x=>x.1.length=l.length/\x.2<=m/\i<=x.2) (fun x=>(x.2-i).toNat) (fun r:List AN=>r.length=l.length) ?_ big (l,m) ⟨rfl,by dsimp only;omega,by dsimp only;omega⟩ (Bw _ (by dsimp only;omega));rintro L' ⟨u,q⟩ ⟨hu,hq,hq2⟩ ih';dsimp only at hu hq hq2 ih';unfold cz Oq;dsimp only;rw [AV];split
    .have e1:w64 (q-1)=q-1:=AP (by omega) (by omega);obtain⟨x1,q1⟩:=BR (l:=u) (i:=q-1) (by omega) (by omega);obtain⟨x2,q2⟩:=BR (l:=u) (i:=q) (by omega) (by omega);obtain⟨x3,q3⟩:=BR (l:=List.set u q.toNat x1) (i:=q-1) (by omega) (by rw [List.length_set];omega);simp only [e1,q1,q2,q3,AA];exact ih' (_,q-1) ⟨by simp only [List.length_set];exact hu,by dsimp only;omega,by dsimp only;omega⟩ (by dsimp only;omega)
    .rw [AG];exact⟨u,rfl,hu⟩
  .rw [show (b-m==1)=false from by simp [c2],Ad,AG];have key:∀s t:Int,a<=s->s<=t->t<=(a+b) / 2->t<=m->(a+b) / 2+m-b<=s->Ln l.length (MW r l a m b (s,t)):=by
    intro s t p1 p2 p3 p4 p5;unfold MW;refine CS (fun x=>a<=x.1/\x.1<=x.2/\x.2<=(a+b) / 2/\x.2<=m/\(a+b) / 2+m-b<=x.1) (fun x=>(x.2-x.1).toNat) (fun r:List AN=>r.length=l.length) ?_ big (s,t) ⟨p1,p2,p3,p4,p5⟩ (Bw _ (by dsimp only;omega));rintro L ⟨i,j⟩ ⟨g1,g2,g3,g4,g5⟩ ih;dsimp only at g1 g2 g3 g4 g5 ih;unfold Xv;dsimp only;rw [AV];split
    .have eh:w64 (BE (IntKind.u64.wrap (w64 (i+j))) 1)=(i+j) / 2:=Fh (by omega) (by omega);have eh1:w64 ((i+j) / 2+1)=(i+j) / 2+1:=AP (by omega) (by omega);have ep:w64 (w64 (w64 ((a+b) / 2+m)-1)-(i+j) / 2)=(a+b) / 2+m-1-(i+j) / 2:=by
      rw [AP (n:=(a+b) / 2+m) (by omega) (by omega),AP (n:=(a+b) / 2+m-1) (by omega) (by omega)];exact AP (by omega) (by omega)
     obtain⟨x1,q1⟩:=BR (l:=l) (i:=(i+j) / 2) (by omega) (by omega);obtain⟨x2,q2⟩:=BR (l:=l) (i:=(a+b) / 2+m-1-(i+j) / 2) (by omega) (by omega);obtain⟨c,hc,_⟩:=EV x2 x1;simp only [e0,eh,eh1,ep,q1,q2,AA,hc];cases hcc:decide (c<0)
     .rw [show (!false)=true from rfl,Ab];exact ih ((i+j) / 2+1,j) ⟨by dsimp only;omega,by dsimp only;omega,by dsimp only;omega,by dsimp only;omega,by dsimp only;omega⟩ (by dsimp only;omega)
     .rw [show (!true)=false from rfl,Ad];exact ih (i,(i+j) / 2) ⟨by dsimp only;omega,by dsimp only;omega,by dsimp only;omega,by dsimp only;omega,by dsimp only;omega⟩ (by dsimp only;omega)
    .rw [AG];exact iJ hr h0 h1 h2 h3 hl hk g1 (by omega) (by omega) g5
   unfold cm;rw [e0,AV];split
   .rw [AG,AP (n:=(a+b) / 2+m) (by omega) (by omega),AP (n:=(a+b) / 2+m-b) (by omega) (by omega)];exact key _ _ (by omega) (by omega) (by omega) (by omega) (by omega)
   .rw [AG];exact key _ _ (by omega) (by omega) (by omega) (by omega) (by omega)
theorem oB:∀k,SJ k (GD k)
 |0=>by
  intro l a m b h0 h1 h2 h3 hl hk;have:(2:Int) ^ 0=1:=rfl;omega
 |k+1=>pb (oB k)
theorem YT{l:List AN}{a m b:Int}(h0:0<=a)(h1:a<m)(h2:m<b)(h3:b<=l.length)(hl:l.length<=40):Ln l.length (qT l a m b):=
 oB 7 l a m b h0 h1 h2 h3 (by omega) (by have:(2:Int) ^ 7=128:=rfl;omega)
theorem bV{l:List AN}(hl:l.length<=40):Ln l.length (Xw l):=by
 unfold Xw ln;have hl3:∀v:List AN,v.length=l.length->Ln l.length (AT (Ou (l.length:Int)) big (v,20)):=by
  intro v hv;refine CS (fun x=>x.1.length=l.length/\(x.2=20\/x.2=40)) (fun x=>(40-x.2).toNat) (fun r:List AN=>r.length=l.length) ?_ big (v,20) ⟨hv,.inl rfl⟩ (Bw _ (by dsimp only;omega));rintro L ⟨u,s⟩ ⟨hu,hs⟩ ih;dsimp only at hu hs ih;unfold Ou;dsimp only;rw [AV];split
  .have hs20:s=20:=by omega
   subst hs20;have out:∀w:List AN,w.length=l.length->Ln l.length (Ot L 20 w):=by
    intro w hw;unfold Ot;rw [AP (by omega) (by omega)];exact ih (w,20*2) ⟨hw,.inr rfl⟩ (by dsimp only;omega)
   rw [AP (n:=2*20) (by omega) (by omega)];refine CS (fun x=>x.1.length=l.length/\x.2.2=x.2.1+40/\(x.2.1=0\/x.2.1=40)) (fun x=>(40-x.2.1).toNat) (fun r:List AN=>r.length=l.length) ?_ big (u,0,2*20) ⟨hu,by dsimp only;omega,.inl rfl⟩ (Bw _ (by dsimp only;omega));rintro L' ⟨w,a,b⟩ ⟨hw,hab,ha⟩ ih';dsimp only at hw hab ha ih';unfold dB;dsimp only;rw [AV];split
   .obtain⟨x,hx,hx2⟩:=YT (l:=w) (a:=a) (m:=a+20) (b:=b) (by omega) (by omega) (by omega) (by omega) (by omega);rw [AP (n:=a+20) (by omega) (by omega),hx,AA,AP (n:=2*20) (by omega) (by omega),AP (n:=b+2*20) (by omega) (by omega)];exact ih' (x,b,b+2*20) ⟨hx2.trans hw,by dsimp only;omega,by dsimp only;omega⟩ (by dsimp only;omega)
   .rw [AG];unfold dA;dsimp only;rw [AP (n:=a+20) (by omega) (by omega),AV];split
    .obtain⟨x,hx,hx2⟩:=YT (l:=w) (a:=a) (m:=a+20) (b:=(l.length:Int)) (by omega) (by omega) (by omega) (by omega) (by omega);rw [hx,AA,AG];exact out x (hx2.trans hw)
    .rw [AG];exact out w hw
  .exact⟨u,rfl,hu⟩
 have key:Ln l.length (AT (Kh (l.length:Int)) big (l,0,20)):=by
  refine CS (fun x=>x.1.length=l.length/\0<=x.2.1/\x.2.1<=(l.length:Int)/\x.2.2=x.2.1+20) (fun x=>(60-x.2.1).toNat) (fun r:List AN=>r.length=l.length) ?_ big (l,0,20) ⟨rfl,by dsimp only;omega,by dsimp only;omega,by dsimp only;omega⟩ (Bw _ (by dsimp only;omega));rintro L ⟨u,a,b⟩ ⟨hu,ha,ha2,hab⟩ ih;dsimp only at hu ha ha2 hab ih;unfold Kh;dsimp only;rw [AV];split
  .obtain⟨x,hx,hx2⟩:=nV (l:=u) (a:=a) (b:=b) (by omega) (by omega) (by omega) (by omega);rw [hx,AA,AP (n:=b+20) (by omega) (by omega)];exact ih (x,b,b+20) ⟨hx2.trans hu,by dsimp only;omega,by dsimp only;omega,rfl⟩ (by dsimp only;omega)
  .rw [AG];unfold TE;dsimp only;obtain⟨x,hx,hx2⟩:=nV (l:=u) (a:=a) (b:=(l.length:Int)) (by omega) (by omega) (by omega) (by omega);rw [hx,AA];exact hl3 x (hx2.trans hu)
 obtain⟨x,hx,hx2⟩:=key;rw [hx,AA];exact⟨x,rfl,hx2⟩
end Lv.P
