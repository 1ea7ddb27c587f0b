/-
  Plain laws: events, loops, numbers in bytes.
-/
import Derived.Test.YtffakkimlookoaaGreatKC
import Derived.Test.YtffakkimlookoaaGreatPA
set_option linter.unusedVariables false
set_option linter.unusedSimpArgs false
namespace Lv.P
open Go (IntKind BinOp UnOp)
@[simp] theorem uu(a b c:Int):CU a b c=some (decide (b<=a/\a<=c)):=by
 unfold CU Sf;simp only [AT,AE];by_cases h:a>=b <;> simp [h,show b<=a↔a>=b from Iff.rfl]
@[simp] theorem Y8(a b c:Int):BT a b c=some (decide (b<=a/\a<=c)):=by
 unfold BT O6;simp only [AT,AE];by_cases h:a>=b <;> simp [h,show b<=a↔a>=b from Iff.rfl]
def IJ(n:Nat):List UInt8:=if n<128 then [UInt8.ofNat n] else UInt8.ofNat (n % 128+128)::IJ (n / 128)
decreasing_by omega
def pN(n:Int):List UInt8:=if 0<=n/\n<=2147483647 then IJ n.toNat else []
theorem H4{n:Nat}(h:n<128):IJ n=[UInt8.ofNat n]:=by rw [IJ,if_pos h]
theorem MZ{n:Nat}(h:128<=n):IJ n=UInt8.ofNat (n % 128+128)::IJ (n / 128):=by rw [IJ,if_neg (by omega)]
theorem GY(n:Nat):0<(IJ n).length:=by rw [IJ];split <;> simp
theorem SJ:∀(k n:Nat),n<128 ^ (k+1)->(IJ n).length<=k+1
 |0,n,h=>by rw [H4 (by simpa using h)];simp
 |k+1,n,h=>by
  rcases Nat.lt_or_ge n 128 with h1|h1
  .rw [H4 h1];simp
  .rw [MZ h1];have:=SJ k (n / 128) (by rw [Nat.div_lt_iff_lt_mul (by omega)];rw [Nat.pow_succ] at h;exact h);simp only [List.length_cons];omega
theorem Rk{n:Nat}(h:n<=2147483647):(IJ n).length<=5:=SJ 4 n (by omega)
theorem kC(n:Int):(pN n).length<=5:=by unfold pN;split
                                       .exact Rk (by omega)
                                       .simp
theorem nd{F:(Int×List UInt8->Option (List UInt8))->Int×List UInt8->Option (List UInt8)}
 (hF:∀L n acc,F L (n,acc)=if n<128 then gd (acc.length+1<=lim) (some (acc++[toB n])) else gd (acc.length+1<=lim) (L (w64 (Int.tdiv n 128),acc++[toB (w64 (Int.tmod n 128+128))])))
 {n:Nat} (hn:n<=2147483647):AR F big ((n:Int),[])=some (IJ n):=by
 have:=oz (F:=F) (x:=((n:Int),[])) (fun x=>some (x.2++IJ x.1.toNat)) (fun x=>0<=x.1/\x.1<=2147483647/\x.2.length+(IJ x.1.toNat).length<=5) (fun x=>x.1.toNat) ?_ ?_ ?_
 .simpa using this
 .rintro L ⟨m,acc⟩ ⟨h0,h1,h2⟩ hL;dsimp only at h0 h1 h2 hL ⊢;obtain⟨m,rfl⟩:=Int.eq_ofNat_of_zero_le h0;rw [hF];simp only [Int.toNat_natCast] at h2 hL ⊢;have hlim:acc.length+1<=lim:=by have:=GY m;unfold lim;omega
  by_cases h:m<128
  .rw [if_pos (by omega),BE hlim,H4 h,n6 (by omega)]
  .have e1:Int.tdiv (m:Int) 128=((m / 128:Nat):Int):=by
    rw [Int.tdiv_eq_ediv_of_nonneg (by omega)];rfl
   have e2:Int.tmod (m:Int) 128+128=((m % 128+128:Nat):Int):=by
    rw [Int.tmod_eq_emod_of_nonneg (by omega)];omega
   have hp:=MZ (n:=m) (by omega);rw [if_neg (by omega),BE hlim,e1,e2,AM (by omega) (by omega),AM (by omega) (by omega),n6 (by omega)];rw [hL _ ⟨by dsimp only;omega,by dsimp only;omega,?_⟩ (by dsimp only;omega)]
   .simp only [Int.toNat_natCast,hp];simp
   .rw [hp] at h2;simp only [List.length_append,List.length_cons,List.length_nil,Int.toNat_natCast] at h2 ⊢;omega
 .refine⟨by dsimp only;omega,by dsimp only;omega,?_⟩;have:=Rk hn;simpa using this
 .dsimp only;omega
@[simp] theorem iJ(n:Int):dG n=some (pN n):=by
 unfold dG pN;simp only [uu,AA,Ae,AT];split
 .rename_i h;obtain⟨m,rfl⟩:=Int.eq_ofNat_of_zero_le h.1;refine nd (fun L n acc=>?_) (by omega);unfold dI dH;simp only [AT,AE,List.length_cons,List.length_nil,Nat.zero_add];by_cases h:n>127
  .rw [if_pos h,if_neg (by omega)]
  .rw [if_neg h,if_pos (by omega)]
 .rfl
@[simp] theorem Hz(n:Int):UM n=some (pN n):=by
 unfold UM pN;simp only [Y8,AA,Ae,AT];split
 .rename_i h;obtain⟨m,rfl⟩:=Int.eq_ofNat_of_zero_le h.1;refine nd (fun L n acc=>?_) (by omega);unfold eF eE;simp only [AT,AE,List.length_cons,List.length_nil,Nat.zero_add];by_cases h:n>=128
  .rw [if_pos h,if_neg (by omega)]
  .rw [if_neg h,if_pos (by omega)]
 .rfl
def rdN:Nat->Nat->Nat->List UInt8->Option (Nat×Nat)
 |0,_,_,_=>none
 |_+1,_,_,[]=>none
 |f+1,k,a,d::l=>
  if d.toNat<128 then (if (0<k/\d.toNat=0)\/2147483647<a+(d.toNat % 128)*2 ^ (7*k) then none else some (a+(d.toNat % 128)*2 ^ (7*k),k+1))
  else rdN f (k+1) (a+(d.toNat % 128)*2 ^ (7*k)) l
def jM(at_:Nat):Option (Nat×Nat)->Int×Int×Bool
 |some (n,m)=>((n:Int),((at_+m:Nat):Int),true)
 |none=>(0,0,false)
def gN(b:List UInt8)(i:Int):Int×Int×Bool:=if 0<=i/\i<b.length then jM i.toNat (rdN 5 0 0 (b.drop i.toNat)) else (0,0,false)
theorem iE{c s:Nat}(hc:c<128)(hs:s<=28):XB (c:Int) (s:Int)=((c*2 ^ s:Nat):Int):=by
 have h1:c*2 ^ s<2 ^ 35:=by
  have:2 ^ s<=2 ^ 28:=Nat.pow_le_pow_right (by omega) hs
  calc c*2 ^ s<=127*2 ^ 28:=Nat.mul_le_mul (by omega) this
   _<2 ^ 35:=by decide
 unfold XB;have e:min (s:Int).toNat IntKind.i64.bits=s:=by simp only [Int.toNat_natCast,IntKind.bits];omega
 rw [e];have e2:(c:Int)*2 ^ s=((c*2 ^ s:Nat):Int):=by push_cast;rfl
 rw [e2,Qn (by omega) (by omega)]
theorem Gk{n:Nat}(h:n<2 ^ 63):(BitVec.ofInt IntKind.i64.bits (n:Int)).toNat=n:=by
 simp only [IntKind.bits,BitVec.toNat_ofInt];omega
theorem vE{a b:Nat}(ha:a<2 ^ 63)(hb:b<2 ^ 63):orI (a:Int) (b:Int)=((a |||b:Nat):Int):=by
 unfold orI;rw [BitVec.toNat_or,Gk ha,Gk hb];have:a |||b<2 ^ 63:=Nat.or_lt_two_pow ha hb;rw [Qn (by omega) (by omega)]
theorem xV{a c s:Nat}(ha:a<2 ^ s):a |||c*2 ^ s=a+c*2 ^ s:=by
 have:=Nat.two_pow_add_eq_or_of_lt ha c;rw [Nat.or_comm,Nat.mul_comm,<-this,Nat.add_comm]
theorem gi:∀(k n:Nat),n<128 ^ (k+1)->((IJ n).length=k+1↔k=0\/128 ^ k<=n)
 |0,n,h=>by rw [H4 (by simpa using h)];simp
 |k+1,n,h=>by
  rcases Nat.lt_or_ge n 128 with h1|h1
  .rw [H4 h1];have:128 ^ 1<=128 ^ (k+1):=Nat.pow_le_pow_right (by omega) (by omega);simp only [List.length_cons,List.length_nil];omega
  .rw [MZ h1];have hd:n / 128<128 ^ (k+1):=by rw [Nat.div_lt_iff_lt_mul (by omega)];rw [Nat.pow_succ] at h;exact h
   have:=gi k (n / 128) hd;have e:128 ^ k<=n / 128↔128 ^ (k+1)<=n:=by rw [Nat.le_div_iff_mul_le (by omega),Nat.pow_succ]
   simp only [List.length_cons,Nat.add_right_cancel_iff];rw [this,e];cases k with
   |zero=>simp;omega
   |succ k=>simp
theorem xX(k:Nat):(2:Nat) ^ (7*k)=128 ^ k:=by rw [Nat.pow_mul]
theorem digit{a k c:Nat}(hk:k<5)(ha:a<128 ^ k)(hc:c<128):a+c*2 ^ (7*k)<128 ^ (k+1)/\a+c*2 ^ (7*k)<2 ^ 35:=by
 rw [xX];have h1:a+c*128 ^ k<128 ^ (k+1):=by
  have:c*128 ^ k<=127*128 ^ k:=Nat.mul_le_mul_right _ (by omega);rw [Nat.pow_succ];omega
 refine⟨h1,Nat.lt_of_lt_of_le h1 ?_⟩
 calc 128 ^ (k+1)<=128 ^ 5:=Nat.pow_le_pow_right (by omega) (by omega)
  _=2 ^ 35:=by decide
theorem I9{b:List UInt8}(hb:b.length<2 ^ 62){i:Nat}(hi:i<2 ^ 62):∀(f k a n:Nat),f+k=5->f<n->a<128 ^ k ->
 AR (Ii b i) n ((a:Int),(k:Int))=some (jM i (rdN f k a (b.drop (i+k))))
 |0,k,a,n,hf,hn,ha=>by
  obtain⟨n,rfl⟩:∃m,n=m+1:=⟨n-1,by omega⟩;rw [Bd];unfold Ii dw;simp only [AT,AE];rw [if_neg (by omega)];rfl
 |f+1,k,a,n,hf,hn,ha=>by
  obtain⟨n,rfl⟩:∃m,n=m+1:=⟨n-1,by omega⟩;rw [Bd];generalize hL:AR (Ii b i) n=L;unfold Ii;simp only [AT,AE];rw [if_pos (by omega),if_neg (by omega)];unfold PU PV;simp only [AT,AE,Af,Fz,ge_iff_le,beq_iff_eq,decide_eq_true_eq];rw [AM (n:=(b.length:Int)-k) (by omega) (by omega)];cases hl:b.drop (i+k) with
  |nil=>
   have:b.length<=i+k:=List.drop_eq_nil_iff.1 hl;rw [if_pos (by omega)];rfl
  |cons d l=>
   have hlt:i+k<b.length:=by
    rcases Nat.lt_or_ge (i+k) b.length with h|h
    .exact h
    .rw [List.drop_eq_nil_of_le h] at hl;cases hl
   have hd:b[i+k]?=some d:=by
    have:=List.getElem?_drop (xs:=b) (i:=i+k) (j:=0);rw [hl] at this;simpa using this.symm
   have hl':b.drop (i+(k+1))=l:=by
    rw [<-Nat.add_assoc,<-List.drop_drop,hl];rfl
   rw [if_neg (by omega),AM (n:=(i:Int)+k) (by omega) (by omega),show (i:Int)+k=((i+k:Nat):Int) from by push_cast;rfl,DN,hd,AA];have hd8:d.toNat<256:=d.toNat_lt;have e7:w64 (7*(k:Int))=((7*k:Nat):Int):=by rw [AM (by omega) (by omega)];push_cast;rfl
   have ed:w64 ((d.toNat:Nat):Int)=(d.toNat:Int):=AM (by omega) (by omega);have em:Int.tmod (d.toNat:Int) 128=((d.toNat % 128:Nat):Int):=by rw [Int.tmod_eq_emod_of_nonneg (by omega)];rfl
   obtain⟨hs1,hs2⟩:=digit (a:=a) (k:=k) (c:=d.toNat % 128) (by omega) ha (by omega);have hor:orI (a:Int) (XB ((d.toNat % 128:Nat):Int) ((7*k:Nat):Int))=((a+(d.toNat % 128)*2 ^ (7*k):Nat):Int):=by
    rw [iE (by omega) (by omega)];rw [vE (by have:=Nat.pow_le_pow_right (n:=128) (by omega) (show k<=5 by omega);omega) (by omega),xV (by rw [xX];exact ha)]
   rw [e7,BE (by omega),ed,em,hor];simp only [rdN];have e1:w64 ((k:Int)+1)=((k+1:Nat):Int):=AM (by omega) (by omega);by_cases h1:d.toNat<128
   .rw [if_pos (by omega),if_pos h1];by_cases hk:0<k
    .rw [if_pos (by omega)];by_cases hz:d.toNat=0
     .rw [if_pos (by omega),if_pos trivial,if_pos (Or.inl ⟨hk,hz⟩)];rfl
     .rw [if_neg (by omega)];by_cases hm:2147483647<a+(d.toNat % 128)*2 ^ (7*k)
      .rw [if_pos (by omega),if_pos (.inr hm)];rfl
      .rw [if_neg (by omega),if_neg (by omega)];simp only [jM,Option.some.injEq,Prod.mk.injEq,and_true,true_and];rw [AM (n:=((i+k:Nat):Int)+1) (by omega) (by omega)];omega
    .rw [if_neg (by omega)];by_cases hm:2147483647<a+(d.toNat % 128)*2 ^ (7*k)
     .rw [if_pos (by omega),if_pos (.inr hm)];rfl
     .rw [if_neg (by omega),if_neg (by omega)];simp only [jM,Option.some.injEq,Prod.mk.injEq,and_true,true_and];rw [AM (n:=((i+k:Nat):Int)+1) (by omega) (by omega)];omega
   .rw [if_neg (by omega),if_neg h1,e1,<-hL,I9 hb hi f (k+1) _ n (by omega) (by omega) hs1,hl']
theorem Io{b:List UInt8}(hb:b.length<2 ^ 62){i:Nat}(hi:i<2 ^ 62):∀(f k a n:Nat),f+k=5->f<n->a<128 ^ k ->
 AR (K1 b i) n ((a:Int),(k:Int))=some (jM i (rdN f k a (b.drop (i+k))))
 |0,k,a,n,hf,hn,ha=>by
  obtain⟨n,rfl⟩:∃m,n=m+1:=⟨n-1,by omega⟩;rw [Bd];unfold K1 PW UF;simp only [AT,AE];rw [if_neg (by omega)];rfl
 |f+1,k,a,n,hf,hn,ha=>by
  obtain⟨n,rfl⟩:∃m,n=m+1:=⟨n-1,by omega⟩;rw [Bd];generalize hL:AR (K1 b i) n=L;unfold K1;simp only [AT,AE];rw [if_pos (by omega)];unfold PW UF;simp only [AT,AE,Fz,bne_iff_ne,Hz,AA,decide_eq_true_eq];rw [AM (n:=(i:Int)+k) (by omega) (by omega),show (i:Int)+k=((i+k:Nat):Int) from by push_cast;rfl];cases hl:b.drop (i+k) with
  |nil=>
   have:b.length<=i+k:=List.drop_eq_nil_iff.1 hl;rw [if_neg (by omega)];rfl
  |cons d l=>
   have hlt:i+k<b.length:=by
    rcases Nat.lt_or_ge (i+k) b.length with h|h
    .exact h
    .rw [List.drop_eq_nil_of_le h] at hl;cases hl
   have hd:b[i+k]?=some d:=by
    have:=List.getElem?_drop (xs:=b) (i:=i+k) (j:=0);rw [hl] at this;simpa using this.symm
   have hl':b.drop (i+(k+1))=l:=by
    rw [<-Nat.add_assoc,<-List.drop_drop,hl];rfl
   rw [if_pos (by omega),DN,hd,AA];have hd8:d.toNat<256:=d.toNat_lt;have e7:w64 (7*(k:Int))=((7*k:Nat):Int):=by rw [AM (by omega) (by omega)];push_cast;rfl
   have ed:w64 ((d.toNat:Nat):Int)=(d.toNat:Int):=AM (by omega) (by omega);have em:Int.tmod (d.toNat:Int) 128=((d.toNat % 128:Nat):Int):=by rw [Int.tmod_eq_emod_of_nonneg (by omega)];rfl
   obtain⟨hs1,hs2⟩:=digit (a:=a) (k:=k) (c:=d.toNat % 128) (by omega) ha (by omega);have hor:w64 ((a:Int)+(XB ((d.toNat % 128:Nat):Int) ((7*k:Nat):Int)))=((a+(d.toNat % 128)*2 ^ (7*k):Nat):Int):=by
    rw [iE (by omega) (by omega),AM (by omega) (by omega)];push_cast;rfl
   rw [e7,BE (by omega),ed,em,hor];simp only [rdN,Hz,AA];have e1:w64 ((k:Int)+1)=((k+1:Nat):Int):=AM (by omega) (by omega);rw [e1];by_cases h1:d.toNat<128
   .rw [if_pos (by omega),if_pos h1];have hpow:128 ^ k<=a+(d.toNat % 128)*2 ^ (7*k)↔d.toNat≠0:=by
     rw [xX];constructor
     .rintro h h0;rw [h0] at h;simp at h;omega
     .intro h;have:1*128 ^ k<=d.toNat % 128*128 ^ k:=Nat.mul_le_mul_right _ (by omega);omega
    have hlen:((pN ((a+(d.toNat % 128)*2 ^ (7*k):Nat):Int)).length:Int)≠((k+1:Nat):Int)↔(0<k/\d.toNat=0)\/2147483647<a+(d.toNat % 128)*2 ^ (7*k):=by
     unfold pN;split
     .rename_i hle;rw [Int.toNat_natCast];have:=gi k _ hs1;rw [hpow] at this;rw [Ne,Int.ofNat_inj,this];omega
     .simp only [List.length_nil];omega
    by_cases hx:(0<k/\d.toNat=0)\/2147483647<a+(d.toNat % 128)*2 ^ (7*k)
    .rw [if_pos (hlen.2 hx),if_pos hx];rfl
    .rw [if_neg (fun h=>hx (hlen.1 h)),if_neg hx];simp only [jM,Option.some.injEq,Prod.mk.injEq,and_true,true_and];rw [AM (n:=((i+k:Nat):Int)+1) (by omega) (by omega)];omega
   .rw [if_neg (by omega),if_neg h1,<-hL,Io hb hi f (k+1) _ n (by omega) (by omega) hs1,hl']
theorem iH{b:List UInt8}(hb:b.length<2 ^ 62)(i:Int)(hi:i<2 ^ 62):dv b i=some (gN b i):=by
 unfold dv gN;by_cases h0:0<=i
 .obtain⟨j,rfl⟩:=Int.eq_ofNat_of_zero_le h0;have:=I9 hb (i:=j) (by omega) 5 0 0 big (by omega) (EN _ (by omega)) (by omega);refine Eq.trans this ?_;simp only [Int.toNat_natCast,Nat.add_zero];split
  .rfl
  .rw [List.drop_eq_nil_of_le (by omega)];rfl
 .obtain⟨n,hn⟩:=Kk 0 (by omega);rw [hn,Bd,if_neg (by omega)];unfold Ii PU;simp only [AT,AE];rw [if_pos (by omega),if_pos (by omega)];rfl
theorem fy{b:List UInt8}(hb:b.length<2 ^ 62)(i:Int):dy b i=some (gN b i):=by
 unfold dy gN;simp only [Y8,AA,Ae,AT];rw [AM (by omega) (by omega)];by_cases h0:0<=i/\i<b.length
 .obtain⟨j,rfl⟩:=Int.eq_ofNat_of_zero_le h0.1;rw [if_pos (by omega),if_pos h0];have:=Io hb (i:=j) (by omega) 5 0 0 big (by omega) (EN _ (by omega)) (by omega);refine Eq.trans this ?_;simp only [Int.toNat_natCast,Nat.add_zero]
 .rw [if_neg (by omega),if_neg h0]
end Lv.P
namespace Lv.P
open Go (IntKind BinOp UnOp)
theorem vu{n:Nat}(h:n<256):(UInt8.ofNat n).toNat=n:=by simp;omega
theorem nj:∀(f k a n:Nat) (l:List UInt8),(IJ n).length<=f->(k=0\/n≠0)->a+n*2 ^ (7*k)<=2147483647->rdN f k a (IJ n++l)=some (a+n*2 ^ (7*k),k+(IJ n).length)
 |0,k,a,n,l,h,_,_=>by have:=GY n;omega
 |f+1,k,a,n,l,h,hk,hm=>by
  rcases Nat.lt_or_ge n 128 with h1|h1
  .rw [H4 h1];simp only [List.cons_append,List.nil_append,rdN,List.length_cons,List.length_nil];rw [vu (by omega),if_pos h1,Nat.mod_eq_of_lt h1,if_neg (by omega)]
  .rw [MZ h1] at h ⊢;simp only [List.cons_append,rdN,List.length_cons] at h ⊢;rw [vu (by omega),if_neg (by omega)];have e:(n % 128+128) % 128=n % 128:=by omega
   have e2:a+n % 128*2 ^ (7*k)+n / 128*2 ^ (7*(k+1))=a+n*2 ^ (7*k):=by
    have:2 ^ (7*(k+1))=128*2 ^ (7*k):=by rw [Nat.mul_add,Nat.pow_add];omega
    rw [this];have:n=n % 128+128*(n / 128):=(Nat.mod_add_div n 128).symm
    conv=>rhs;rw [this,Nat.add_mul]
    rw [show n / 128*(128*2 ^ (7*k))=128*(n / 128)*2 ^ (7*k) from by rw [<-Nat.mul_assoc,Nat.mul_comm (n / 128) 128]];omega
   rw [e,nj f (k+1) _ (n / 128) l (by omega) (by omega) (by rw [e2];exact hm),e2];congr 2;omega
theorem bE:∀(f k a:Nat) (l:List UInt8) (N m:Nat),rdN f k a l=some (N,m)->∃n l',l=IJ n++l'/\N=a+n*2 ^ (7*k)/\m=k+(IJ n).length/\(k=0\/n≠0)/\N<=2147483647
 |0,k,a,l,N,m,h=>by cases h
 |f+1,k,a,[],N,m,h=>by cases h
 |f+1,k,a,d::l,N,m,h=>by
  have hd8:d.toNat<256:=d.toNat_lt;simp only [rdN] at h;split at h
  .rename_i h1;split at h
   .cases h
   .rename_i h2;cases h;refine⟨d.toNat,l,?_,?_,?_,by omega,by omega⟩
    .rw [H4 h1];simp
    .rw [Nat.mod_eq_of_lt h1]
    .rw [H4 h1];rfl
  .rename_i h1;obtain⟨n,l',h3,h4,h5,h6,h7⟩:=bE f (k+1) _ l N m h;have hn:n≠0:=by omega
   have hge:128<=d.toNat % 128+128*n:=by omega
   refine⟨d.toNat % 128+128*n,l',?_,?_,?_,.inr (by omega),h7⟩
   .rw [MZ hge,show (d.toNat % 128+128*n) % 128+128=d.toNat by omega,show (d.toNat % 128+128*n) / 128=n by omega,h3];simp
   .rw [h4,Nat.add_mul,show 7*(k+1)=7*k+7 from by omega,Nat.pow_add];rw [show n*(2 ^ (7*k)*2 ^ 7)=128*n*2 ^ (7*k) from by rw [Nat.mul_comm (2 ^ (7*k)),<-Nat.mul_assoc,Nat.mul_comm n]];omega
   .rw [MZ hge,show (d.toNat % 128+128*n) / 128=n by omega,h5];simp only [List.length_cons];omega
def rdL:Nat->List UInt8->Option (List Int)
 |0,_=>none
 |f+1,[]=>some []
 |f+1,l=>match rdN 5 0 0 l with
  |some (n,m)=>(rdL f (l.drop m)).map ((n:Int)::·)
  |none=>none
def okN(n:Int):Prop:=0<=n/\n<=2147483647
def pL(l:List Int):List UInt8:=l.flatMap pN
theorem sa{n:Int}(h:okN n):pN n=IJ n.toNat:=by unfold pN;rw [if_pos (show 0<=n/\n<=2147483647 from h)]
theorem sb{n:Int}(h:okN n):0<(pN n).length:=by rw [sa h];exact GY _
theorem xc{n:Int}(h:okN n)(l:List UInt8):rdN 5 0 0 (pN n++l)=some (n.toNat,(pN n).length):=by
 rw [sa h,nj 5 0 0 n.toNat l (Rk (by have:=h.2;omega)) (.inl rfl) (by have:=h.2;simp;omega)];simp
theorem sg:∀(l:List Int) (f:Nat),(∀n∈l,okN n)->(pL l).length<f->rdL f (pL l)=some l
 | [],f,_,h=>by
  obtain⟨f,rfl⟩:∃g,f=g+1:=⟨f-1,by omega⟩;rfl
 |n::l,f,hn,h=>by
  obtain⟨f,rfl⟩:∃g,f=g+1:=⟨f-1,by omega⟩;have h0:=hn n (by simp);have hp:=sb h0;have e:pL (n::l)=pN n++pL l:=by simp [pL]
  rw [e] at h ⊢;have hne:pN n++pL l≠[]:=by intro h;rw [List.append_eq_nil_iff] at h;rw [h.1] at hp;simp at hp
  rw [rdL.eq_3 _ _ (by simpa using hne),xc h0];simp only [List.drop_left];rw [sg l f (fun m hm=>hn m (by simp [hm])) (by rw [List.length_append] at h;omega)];simp only [Option.map_some,Int.toNat_of_nonneg h0.1]
theorem bD:∀(f:Nat) (s:List UInt8) (l:List Int),rdL f s=some l->s=pL l/\∀n∈l,okN n
 |0,s,l,h=>by cases h
 |f+1,[],l,h=>by cases h;exact⟨rfl,by simp⟩
 |f+1,d::s,l,h=>by
  rw [rdL.eq_3 _ _ (by simp)] at h;split at h
  .rename_i n m hr;obtain⟨n',l',h1,h2,h3,_,h5⟩:=bE _ _ _ _ _ _ hr;simp only [Nat.mul_zero,Nat.pow_zero,Nat.mul_one,Nat.zero_add] at h2 h3;subst h2 h3;rw [Option.map_eq_some_iff] at h;obtain⟨l1,h6,rfl⟩:=h;rw [h1,List.drop_left] at h6;obtain⟨h7,h8⟩:=bD f l' l1 h6;refine⟨?_,?_⟩
   .rw [h1,h7];simp only [pL,List.flatMap_cons];rw [sa ⟨by omega,by omega⟩];simp
   .intro x hx;rcases List.mem_cons.1 hx with rfl|hx
    .exact⟨by omega,by omega⟩
    .exact h8 x hx
  .cases h
def xa:Option (List Int)->List Int×Bool
 |some l=>(l,true)
 |none=>([],false)
theorem Wx{b:List UInt8}(hb:b.length<=1048576){G:List UInt8->Int->Option (Int×Int×Bool)}(hG:∀i:Int,i<2 ^ 62->G b i=some (gN b i))
 {F:(List Int×Int->Option (List Int×Bool))->List Int×Int->Option (List Int×Bool)}
 (hF:∀L acc i,F L (acc,i)=if i<(b.length:Int) then bd (G b i) fun x=>br (!x.2.2) (some ([],false)) (gd (acc.length+1<=lim) (L (acc++[x.1],x.2.1))) else some (acc,true)) :
 ∀(f i n:Nat) (acc:List Int),b.length<f+i->f<=n->acc.length<=i->i<=b.length->AR F n (acc,(i:Int))=some (match rdL f (b.drop i) with|some l=>(acc++l,true)|none=>([],false))
 |0,i,n,acc,h1,h2,h3,h4=>by omega
 |f+1,i,n,acc,h1,h2,h3,h4=>by
  obtain⟨n,rfl⟩:∃m,n=m+1:=⟨n-1,by omega⟩;rw [Bd,hF];by_cases hi:i<b.length
  .rw [if_pos (by omega),hG _ (by omega),AA];unfold gN;rw [if_pos (by omega),Int.toNat_natCast];have hne:b.drop i≠[]:=by intro h;rw [List.drop_eq_nil_iff] at h;omega
   rw [rdL.eq_3 _ _ (by simpa using hne)];cases hr:rdN 5 0 0 (b.drop i) with
   |none=>rfl
   |some p=>
    obtain⟨v,m⟩:=p;obtain⟨n',l',k1,k2,k3,_,_⟩:=bE _ _ _ _ _ _ hr;have hm:0<m:=by have:=GY n';omega
    have hmi:i+m<=b.length:=by
     have:=congrArg List.length k1;rw [List.length_drop,List.length_append] at this;omega
    simp only [jM,Ae,Af];rw [BE (by unfold lim;omega),Wx hb hG hF f (i+m) n (acc++[(v:Int)]) (by omega) (by omega) (by rw [List.length_append];simp;omega) hmi,<-List.drop_drop];cases hr2:rdL f ((b.drop i).drop m) with
    |none=>rfl
    |some l=>simp
  .rw [if_neg (by omega),List.drop_eq_nil_of_le (by omega)];simp [rdL]
theorem bh{b:List UInt8}(hb:b.length<=1048576):mH b=some (xa (rdL (b.length+1) b)):=by
 unfold mH;have:=Wx hb (G:=dv) (F:=UE b) (fun i hi=>iH (by omega) i hi) (fun L acc i=>by unfold UE dx;simp only [AT,AE];rfl) (b.length+1) 0 big [] (by omega) (by have:=Qv;omega) (by simp) (by omega);refine Eq.trans this ?_;simp only [List.drop_zero,List.nil_append];cases rdL (b.length+1) b <;> rfl
theorem aE{b:List UInt8}(hb:b.length<=1048576):mI b=some (xa (rdL (b.length+1) b)):=by
 unfold mI;have:=Wx hb (G:=dy) (F:=UG b) (fun i hi=>fy (by omega) i) (fun L acc i=>by unfold UG eA;simp only [AT,AE];rfl) (b.length+1) 0 big [] (by omega) (by have:=Qv;omega) (by simp) (by omega);refine Eq.trans this ?_;simp only [List.drop_zero,List.nil_append];cases rdL (b.length+1) b <;> rfl
theorem Wv{l:List Int}(hl:l.length<=10000000){G:Int->Option (List UInt8)}(hG:∀n,G n=some (pN n))
 {F:(List UInt8×Int->Option (List UInt8))->List UInt8×Int->Option (List UInt8)}
 (hF:∀L acc i,F L (acc,i)=if i<(l.length:Int) then bd (at? l i) fun x=>bd (G x) fun y=>gd (acc.length+y.length<=lim) (L (acc++y,w64 (i+1))) else some acc) :
 ∀(f i n:Nat) (acc:List UInt8),l.length<f+i->f<=n->acc.length<=5*i->i<=l.length->AR F n (acc,(i:Int))=some (acc++pL (l.drop i))
 |0,i,n,acc,h1,h2,h3,h4=>by omega
 |f+1,i,n,acc,h1,h2,h3,h4=>by
  obtain⟨n,rfl⟩:∃m,n=m+1:=⟨n-1,by omega⟩;rw [Bd,hF];by_cases hi:i<l.length
  .rw [if_pos (by omega),DN,List.getElem?_eq_getElem hi,AA,hG,AA];have:=kC l[i];rw [BE (by unfold lim;omega),AM (by omega) (by omega)];have:=Wv hl hG hF f (i+1) n (acc++pN l[i]) (by omega) (by omega) (by rw [List.length_append];omega) hi;refine Eq.trans this ?_;rw [List.drop_eq_getElem_cons hi];simp only [pL,List.flatMap_cons,List.append_assoc]
  .rw [if_neg (by omega),List.drop_eq_nil_of_le (by omega)];simp [pL]
theorem bg{l:List Int}(hl:l.length<=10000000):lZ l=some (pL l):=by
 unfold lZ;have:=Wv hl (G:=dG) (F:=Tk l) iJ (fun L acc i=>by unfold Tk dJ;simp only [AT,AE]) (l.length+1) 0 big [] (by omega) (by have:=Qv;omega) (by simp) (by omega);simpa using this
theorem aF{l:List Int}(hl:l.length<=10000000):mJ l=some (pL l):=by
 unfold mJ;have:=Wv hl (G:=UM) (F:=UN l) Hz (fun L acc i=>by unfold UN eG;simp only [AT,AE]) (l.length+1) 0 big [] (by omega) (by have:=Qv;omega) (by simp) (by omega);simpa using this
def fld(n:Int):Bool:=decide (0<=n/\n<=9999)
@[simp] theorem xh(n:Int):KV n=some (fld n):=by unfold KV fld;simp
@[simp] theorem xG(n:Int):Ko n=some (fld n):=by unfold Ko fld;simp
end Lv.P
namespace Lv.P
open Go (IntKind BinOp UnOp)
@[simp] theorem w8(q:Qo):Ow q q=some true:=by
 unfold Ow;simp [Fz]
end Lv.P
namespace Lv.P
open Go (IntKind BinOp UnOp)
def Q0(v:Nat):Nat:=if v % 2=1 then (v / 2) ^^^ 3988292384 else v / 2
def Ov:Nat->Nat->Nat
 |0,v=>v
 |k+1,v=>Ov k (Q0 v)
def Ly:Nat->List UInt8->Nat
 |v,[]=>v
 |v,x::l=>Ly (Ov 8 (v ^^^ x.toNat)) l
def cW(s:List UInt8):Nat:=Ly 4294967295 s ^^^ 4294967295
theorem Xy{v:Nat}(h:v<2 ^ 32):Q0 v<2 ^ 32:=by
 unfold Q0;split
 .exact Nat.xor_lt_two_pow (by omega) (by omega)
 .omega
theorem M3:∀k {v:Nat},v<2 ^ 32->Ov k v<2 ^ 32
 |0,_,h=>h
 |k+1,_,h=>M3 k (Xy h)
theorem M4:∀(l:List UInt8) {v:Nat},v<2 ^ 32->Ly v l<2 ^ 32
 | [],_,h=>h
 |x::l,v,h=>M4 l (M3 8 (Nat.xor_lt_two_pow h (by have:=x.toNat_lt;omega)))
theorem JC{a b:Nat}(ha:a<2 ^ 63)(hb:b<2 ^ 63):SW (a:Int) (b:Int)=((a ^^^ b:Nat):Int):=by
 unfold SW;rw [BitVec.toNat_xor,Gk ha,Gk hb];have:a ^^^ b<2 ^ 63:=Nat.xor_lt_two_pow ha hb;rw [Qn (by omega) (by omega)]
theorem pq{a b:Nat}(ha:a<2 ^ 63)(hb:b<2 ^ 63):te (a:Int) (b:Int)=((a &&& b:Nat):Int):=by
 unfold te;rw [BitVec.toNat_and,Gk ha,Gk hb];have:a &&& b<2 ^ 63:=Nat.lt_of_le_of_lt Nat.and_le_left ha;rw [Qn (by omega) (by omega)]
theorem yW(a:Nat):BF (a:Int) 1=((a / 2:Nat):Int):=by
 unfold BF;have e:min (1:Int).toNat IntKind.i64.bits=1:=by simp [IntKind.bits]
 rw [e,Int.fdiv_eq_ediv_of_nonneg _ (by omega)];omega
theorem TM{γ:Type}{F:(Int×Int->Option γ)->Int×Int->Option γ}{G:Int->Option γ}
 (hF:∀L (v k:Nat),v<2 ^ 32->k<=8->F L ((v:Int),(k:Int))=if k<8 then L (((Q0 v:Nat):Int),((k+1:Nat):Int)) else G (v:Int)) :
 ∀(m k v n:Nat),k+m=8->m<n->v<2 ^ 32->AR F n ((v:Int),(k:Int))=G ((Ov m v:Nat):Int)
 |0,k,v,0,_,h,_=>by omega
 |0,k,v,n+1,hk,_,hv=>by rw [Bd,hF _ _ _ hv (by omega),if_neg (by omega)];rfl
 |m+1,k,v,0,_,h,_=>by omega
 |m+1,k,v,n+1,hk,h,hv=>by
  rw [Bd,hF _ _ _ hv (by omega),if_pos (by omega),TM hF m (k+1) _ n (by omega) (by omega) (Xy hv)];rfl
theorem TL{s:List UInt8}{γ:Type}{F:(Int×Int->Option γ)->Int×Int->Option γ}{G:Int->Option γ}(hs:s.length<2 ^ 62)
 (hF:∀L (v i:Nat),v<2 ^ 32->i<=s.length->F L ((v:Int),(i:Int))=match s[i]? with|none=>G (v:Int)|some x=>L (((Ov 8 (v ^^^ x.toNat):Nat):Int),((i+1:Nat):Int))) :
 ∀(m i v n:Nat),i+m=s.length->m<n->v<2 ^ 32->AR F n ((v:Int),(i:Int))=G ((Ly v (s.drop i):Nat):Int)
 |0,i,v,0,_,h,_=>by omega
 |0,i,v,n+1,hi,_,hv=>by
  rw [Bd,hF _ _ _ hv (by omega),List.getElem?_eq_none (by omega),List.drop_eq_nil_of_le (by omega)];rfl
 |m+1,i,v,0,_,h,_=>by omega
 |m+1,i,v,n+1,hi,h,hv=>by
  have hlt:i<s.length:=by omega
  rw [Bd,hF _ _ _ hv (by omega),List.getElem?_eq_getElem hlt];dsimp only;rw [TL hs hF m (i+1) _ n (by omega) (by omega) (M3 8 (Nat.xor_lt_two_pow hv (by have:=s[i].toNat_lt;omega))),List.drop_eq_getElem_cons hlt];rfl
theorem s7{s:List UInt8}(hs:s.length<2 ^ 62):lf s=some ((cW s:Nat):Int):=by
 unfold lf;have:=TL (F:=Tm s) (G:=fun v=>some (SW v 4294967295)) hs ?_ s.length 0 4294967295 big (by omega) (EN _ (by omega)) (by omega)
 .refine Eq.trans this ?_;have e:=JC (a:=Ly 4294967295 s) (b:=4294967295) (by have:=M4 s (v:=4294967295) (by omega);omega) (by omega);show some (SW _ ((4294967295:Nat):Int))=_;rw [List.drop_zero,e];rfl
 .intro L v i hv hi;unfold Tm dL;simp only [AT,AE,DN];by_cases h:i<s.length
  .rw [if_pos (by omega),List.getElem?_eq_getElem h,AA];dsimp only;have hx:=s[i].toNat_lt;rw [AM (by omega) (by omega),JC (by omega) (by omega)];have:=TM (F:=Tn L (i:Int)) (G:=fun v=>L (v,((i+1:Nat):Int))) ?_ 8 0 (v ^^^ s[i].toNat) big (by omega) (EN _ (by omega)) (Nat.xor_lt_two_pow hv (by omega))
   .exact this
   .intro L5 v k hv hk;unfold Tn Tl dK;simp only [AT,AE];by_cases h8:k<8
    .rw [if_pos (by omega),if_pos h8];have e1:Int.tmod (v:Int) 2=((v % 2:Nat):Int):=by rw [Int.tmod_eq_emod_of_nonneg (by omega)];omega
     have e2:Int.tdiv (v:Int) 2=((v / 2:Nat):Int):=by rw [Int.tdiv_eq_ediv_of_nonneg (by omega)];omega
     rw [e1,e2,AM (by omega) (by omega),AM (n:=(k:Int)+1) (by omega) (by omega),Fz,show (3988292384:Int)=((3988292384:Nat):Int) from rfl,JC (by omega) (by omega)];unfold Q0;by_cases ho:v % 2=1
     .rw [if_pos (by rw [ho];rfl),if_pos ho];rfl
     .rw [if_neg (by rw [beq_iff_eq];omega),if_neg ho];rfl
    .rw [if_neg (by omega),if_neg h8,AM (by omega) (by omega)];rfl
  .rw [if_neg (by omega),List.getElem?_eq_none (by omega)]
theorem rh{s:List UInt8}(hs:s.length<2 ^ 62):mK s=some ((cW s:Nat):Int):=by
 unfold mK;have:=TL (F:=UP s) (G:=fun v=>some (SW v 4294967295)) hs ?_ s.length 0 4294967295 big (by omega) (EN _ (by omega)) (by omega)
 .refine Eq.trans this ?_;have e:=JC (a:=Ly 4294967295 s) (b:=4294967295) (by have:=M4 s (v:=4294967295) (by omega);omega) (by omega);show some (SW _ ((4294967295:Nat):Int))=_;rw [List.drop_zero,e];rfl
 .intro L v i hv hi;unfold UP eJ;simp only [AT,AE,DN];by_cases h:i<s.length
  .rw [if_pos (by omega),List.getElem?_eq_getElem h,AA];dsimp only;have hx:=s[i].toNat_lt;rw [AM (by omega) (by omega),JC (by omega) (by omega)];have:=TM (F:=UQ L (i:Int)) (G:=fun v=>L (v,((i+1:Nat):Int))) ?_ 8 0 (v ^^^ s[i].toNat) big (by omega) (EN _ (by omega)) (Nat.xor_lt_two_pow hv (by omega))
   .exact this
   .intro L5 v k hv hk;unfold UQ UO eH;simp only [AT,AE];by_cases h8:k<8
    .rw [if_pos (by omega),if_pos h8];have e1:te (v:Int) 1=((v % 2:Nat):Int):=by
      rw [show (1:Int)=((1:Nat):Int) from rfl,pq (by omega) (by omega),Nat.and_one_is_mod]
     rw [e1,yW,AM (n:=(k:Int)+1) (by omega) (by omega),Fz,show (3988292384:Int)=((3988292384:Nat):Int) from rfl,JC (by omega) (by omega)];unfold Q0;by_cases ho:v % 2=1
     .rw [if_pos (by rw [ho];rfl),if_pos ho];rfl
     .rw [if_neg (by rw [beq_iff_eq];omega),if_neg ho];rfl
    .rw [if_neg (by omega),if_neg h8,AM (by omega) (by omega)];rfl
  .rw [if_neg (by omega),List.getElem?_eq_none (by omega)]
def four(c:Int):List UInt8:=[toB (BF c 24),toB (BF c 16),toB (BF c 8),toB c]
theorem rX(c:Int):(four c).length=4:=rfl
def uj(q:Int)(b:List UInt8):Prop:=(1<=q/\q<=1000000)/\(1<=b.length/\b.length<=60)
instance (q:Int) (b:List UInt8):Decidable (uj q b):=by unfold uj;infer_instance
def frT(q:Int)(b:List UInt8):List UInt8:=four ((cW (pN q++b):Nat):Int)++(pN q++b)
def frB(q:Int)(b:List UInt8):List UInt8:=if uj q b then pN ((frT q b).length:Int)++frT q b else []
end Lv.P
namespace Lv.P
open Lv Go
theorem BR{α:Type}{l:List α}{i:Int}(h0:0<=i)(h1:i<l.length):∃x,at? l i=some x:=by
 obtain⟨n,rfl⟩:=Int.eq_ofNat_of_zero_le h0;exact⟨_,Ac (by omega)⟩
theorem Fv{x:Int}(h0:0<=x)(h1:x<1152921504606846976):w64 (BF (IntKind.u64.wrap (w64 x)) 1)=x / 2:=by
 obtain⟨n,rfl⟩:=Int.eq_ofNat_of_zero_le h0;have e1:w64 (n:Int)=n:=AM (by omega) (by omega);have e2:IntKind.u64.wrap (n:Int)=n:=by
  have hh:IntKind.u64.wrap (n:Int)=(n:Int) % 2 ^ 64:=by simp [IntKind.wrap,IntKind.signed,IntKind.bits]
  rw [hh];omega
 rw [e1,e2,yW,AM (by omega) (by omega)];omega
def Ln{α:Type}(n:Nat)(x:Option (List α)):Prop:=∃r,x=some r/\r.length=n
theorem Bh(k:Nat)(h:k<2 ^ 64):k<big:=EN k h
theorem YY{l:List AD}{a b:Int}(h0:0<=a)(ha:a<=l.length)(hb:b<=l.length)(hl:l.length<1099511627776):Ln l.length (Tf l a b):=by
 unfold Tf;rw [AM (by omega) (by omega)];refine CO (fun x=>x.1.length=l.length/\a+1<=x.2/\x.2<=2*1099511627776) (fun x=>(b-x.2).toNat) (fun r:List AD=>r.length=l.length) ?_ big (l,a+1) ⟨rfl,by dsimp only;omega,by dsimp only;omega⟩ (Bh _ (by dsimp only;omega));rintro L ⟨v,i⟩ ⟨hv,hi,hi2⟩ ih;dsimp only at hv hi hi2 ih;unfold PF;dsimp only;rw [AT];split
 .rename_i hib;refine CO (fun x=>x.1.length=l.length/\a<=x.2/\x.2<=i) (fun x=>(x.2-a).toNat) (fun r:List AD=>r.length=l.length) ?_ big (v,i) ⟨hv,by dsimp only;omega,by dsimp only;omega⟩ (Bh _ (by dsimp only;omega));rintro L' ⟨u,j⟩ ⟨hu,hj,hj2⟩ ih';dsimp only at hu hj hj2 ih';have out:∀(u:List AD),u.length=l.length->∃r,PE L i u=some r/\r.length=l.length:=by
   intro u hu;unfold PE;rw [AM (by omega) (by omega)];exact ih (u,i+1) ⟨hu,by dsimp only;omega,by dsimp only;omega⟩ (by dsimp only;omega)
  unfold PG;dsimp only;rw [AT];split
  .rename_i hja;have e1:w64 (j-1)=j-1:=AM (by omega) (by omega);obtain⟨x1,q1⟩:=BR (l:=u) (i:=j) (by omega) (by omega);obtain⟨x2,q2⟩:=BR (l:=u) (i:=j-1) (by omega) (by omega);obtain⟨c,hc,_⟩:=Ff x1 x2;obtain⟨x3,q3⟩:=BR (l:=List.set u j.toNat x2) (i:=j-1) (by omega) (by rw [List.length_set];omega);simp only [e1,q1,q2,AA,hc,AE];unfold Kw;rw [AT];split
   .simp only [e1,q1,q2,q3,AA];exact ih' (_,j-1) ⟨by simp only [List.length_set];exact hu,by dsimp only;omega,by dsimp only;omega⟩ (by dsimp only;omega)
   .rw [AE];exact out u hu
  .rw [AE];unfold Kw;rw [Ag,AE];exact out u hu
 .exact⟨v,rfl,hv⟩
theorem Od{l:List AD}{a b n:Int}(h0:0<=a)(h1:0<=b)(ha:a+n<=l.length)(hb:b+n<=l.length)(hl:l.length<1099511627776):Ln l.length (X3 l a b n):=by
 unfold X3;refine CO (fun x=>x.1.length=l.length/\0<=x.2) (fun x=>(n-x.2).toNat) (fun r:List AD=>r.length=l.length) ?_ big (l,0) ⟨rfl,by dsimp only;omega⟩ (Bh _ (by dsimp only;omega));rintro L ⟨v,i⟩ ⟨hv,hi⟩ ih;dsimp only at hv hi ih;unfold cw;dsimp only;rw [AT];split
 .rename_i hin;have e1:w64 (a+i)=a+i:=AM (by omega) (by omega);have e2:w64 (b+i)=b+i:=AM (by omega) (by omega);have e3:w64 (i+1)=i+1:=AM (by omega) (by omega);obtain⟨x1,q1⟩:=BR (l:=v) (i:=a+i) (by omega) (by omega);obtain⟨x2,q2⟩:=BR (l:=v) (i:=b+i) (by omega) (by omega);obtain⟨x3,q3⟩:=BR (l:=List.set v (a+i).toNat x2) (i:=b+i) (by omega) (by rw [List.length_set];omega);simp only [e1,e2,e3,q1,q2,q3,AA];exact ih (_,i+1) ⟨by simp only [List.length_set];exact hv,by dsimp only;omega⟩ (by dsimp only;omega)
 .exact⟨v,rfl,hv⟩
theorem pK{l:List AD}{a m b:Int}(h0:0<=a)(h1:a<m)(h2:m<b)(h3:b<=l.length)(hl:l.length<1099511627776):Ln l.length (lW l a m b):=by
 unfold lW;rw [AM (n:=m-a) (by omega) (by omega),AM (n:=b-m) (by omega) (by omega)];refine CO (fun x=>x.1.length=l.length/\0<x.2.1/\x.2.1<=m-a/\0<x.2.2/\x.2.2<=b-m) (fun x=>(x.2.1+x.2.2).toNat) (fun r:List AD=>r.length=l.length) ?_ big (l,m-a,b-m) ⟨rfl,by dsimp only;omega,by dsimp only;omega,by dsimp only;omega,by dsimp only;omega⟩ (Bh _ (by dsimp only;omega));rintro L ⟨v,i,j⟩ ⟨hv,hi,hi2,hj,hj2⟩ ih;dsimp only at hv hi hi2 hj hj2 ih;unfold cz;dsimp only;have e1:w64 (m-i)=m-i:=AM (by omega) (by omega);have e2:w64 (w64 (m+j)-i)=m+j-i:=by rw [AM (n:=m+j) (by omega) (by omega)];exact AM (by omega) (by omega)
 by_cases hij:i=j
 .subst hij;rw [show (i != i)=false from by simp,Ag,AE];unfold cy;obtain⟨r,hr,hr2⟩:=Od (l:=v) (a:=m-i) (b:=m) (n:=i) (by omega) (by omega) (by omega) (by omega) (by omega);dsimp only;rw [e1,hr,AA];exact⟨r,rfl,hr2.trans hv⟩
 .rw [show (i != j)=true from by simp [hij],Af,AT];split
  .obtain⟨r,hr,hr2⟩:=Od (l:=v) (a:=m-i) (b:=m) (n:=j) (by omega) (by omega) (by omega) (by omega) (by omega);rw [e1,hr,AA,AM (n:=i-j) (by omega) (by omega)];exact ih (r,i-j,j) ⟨hr2.trans hv,by dsimp only;omega,by dsimp only;omega,by dsimp only;omega,by dsimp only;omega⟩ (by dsimp only;omega)
  .obtain⟨r,hr,hr2⟩:=Od (l:=v) (a:=m-i) (b:=m+j-i) (n:=i) (by omega) (by omega) (by omega) (by omega) (by omega);rw [e1,e2,hr,AA,AM (n:=j-i) (by omega) (by omega)];exact ih (r,i,j-i) ⟨hr2.trans hv,by dsimp only;omega,by dsimp only;omega,by dsimp only;omega,by dsimp only;omega⟩ (by dsimp only;omega)
def Lt(k:Nat)(r:Dp):Prop:=
 ∀(l:List AD) (a m b:Int),0<=a->a<m->m<b->b<=l.length->l.length<1099511627776->b-a<=2 ^ k->Ln l.length (r.d (l,a,m,b,(),()))
theorem Xg{k:Nat}{r:Dp}(hr:Lt k r){l:List AD}{a m b s:Int}(h0:0<=a)(h1:a<m)(h2:m<b)(h3:b<=l.length)(hl:l.length<1099511627776)(hk:b-a<=2 ^ (k+1))
 (g1:a<=s) (g2:s<=(a+b) / 2) (g3:s<=m) (g4:(a+b) / 2+m-b<=s):Ln l.length (Q1 r l a m b s):=by
 have e0:w64 (BF (IntKind.u64.wrap (w64 (a+b))) 1)=(a+b) / 2:=Fv (by omega) (by omega);have e1:w64 (w64 ((a+b) / 2+m)-s)=(a+b) / 2+m-s:=by rw [AM (n:=(a+b) / 2+m) (by omega) (by omega)];exact AM (by omega) (by omega)
 have hk2:(2:Int) ^ (k+1)=2*2 ^ k:=by rw [Int.pow_succ];omega
 have hj16:∀v:List AD,v.length=l.length->Ln l.length (MC r a m b s v):=by
  intro v hv;unfold MC Q4;rw [e0,e1,AT];split
  .rw [AE,AT];split
   .obtain⟨x,hx,hx2⟩:Ln v.length (MD r v ((a+b) / 2) ((a+b) / 2+m-s) b):=hr v ((a+b) / 2) ((a+b) / 2+m-s) b (by omega) (by omega) (by omega) (by omega) (by omega) (by omega);rw [hx,AA];exact⟨x,rfl,hx2.trans hv⟩
   .exact⟨v,rfl,hv⟩
  .rw [AE,Ag];exact⟨v,rfl,hv⟩
 have hj14:∀v:List AD,v.length=l.length->Ln l.length (MA r a m b s v):=by
  intro v hv;unfold MA Q3;rw [e0,AT];split
  .rw [AE,AT];split
   .obtain⟨x,hx,hx2⟩:Ln v.length (MD r v a s ((a+b) / 2)):=hr v a s ((a+b) / 2) (by omega) (by omega) (by omega) (by omega) (by omega) (by omega);rw [hx,AA,AE];exact hj16 x (hx2.trans hv)
   .rw [AE];exact hj16 v hv
  .rw [AE,Ag,AE];exact hj16 v hv
 unfold Q1 Q2;rw [e0,e1,AT];split
 .rw [AE,AT];split
  .obtain⟨x,hx,hx2⟩:=pK (l:=l) (a:=s) (m:=m) (b:=(a+b) / 2+m-s) (by omega) (by omega) (by omega) (by omega) (by omega);rw [hx,AA,AE];exact hj14 x hx2
  .rw [AE];exact hj14 l rfl
 .rw [AE,Ag,AE];exact hj14 l rfl
theorem iO{k:Nat}{r:Dp}(hr:Lt k r):Lt (k+1) (.of (RI r)):=by
 intro l a m b h0 h1 h2 h3 hl hk;show Ln l.length (iy r l a m b);have e0:w64 (BF (IntKind.u64.wrap (w64 (a+b))) 1)=(a+b) / 2:=Fv (by omega) (by omega);unfold iy;rw [AM (n:=m-a) (by omega) (by omega)];by_cases c1:m-a=1
 .rw [show (m-a==1)=true from by simp [c1],Af];refine CO (fun x=>m<=x.1/\x.1<=x.2/\x.2<=b) (fun x=>(x.2-x.1).toNat) (fun r:List AD=>r.length=l.length) ?_ big (m,b) ⟨by dsimp only;omega,by dsimp only;omega,by dsimp only;omega⟩ (Bh _ (by dsimp only;omega));rintro L ⟨i,j⟩ ⟨hi,hij,hj⟩ ih;dsimp only at hi hij hj ih;unfold c9;dsimp only;rw [AT];split
  .have eh:w64 (BF (IntKind.u64.wrap (w64 (i+j))) 1)=(i+j) / 2:=Fv (by omega) (by omega);have eh1:w64 ((i+j) / 2+1)=(i+j) / 2+1:=AM (by omega) (by omega);obtain⟨x1,q1⟩:=BR (l:=l) (i:=(i+j) / 2) (by omega) (by omega);obtain⟨x2,q2⟩:=BR (l:=l) (i:=a) (by omega) (by omega);obtain⟨c,hc,_⟩:=Ff x1 x2;simp only [eh,eh1,q1,q2,AA,hc];rw [AT];split
   .exact ih ((i+j) / 2+1,j) ⟨by dsimp only;omega,by dsimp only;omega,by dsimp only;omega⟩ (by dsimp only;omega)
   .exact ih (i,(i+j) / 2) ⟨by dsimp only;omega,by dsimp only;omega,by dsimp only;omega⟩ (by dsimp only;omega)
  .rw [AE];unfold c5;refine CO (fun x=>x.1.length=l.length/\a<=x.2) (fun x=>(i-1-x.2).toNat) (fun r:List AD=>r.length=l.length) ?_ big (l,a) ⟨rfl,by dsimp only;omega⟩ (Bh _ (by dsimp only;omega));rintro L' ⟨u,q⟩ ⟨hu,hq⟩ ih';dsimp only at hu hq ih';unfold dA PH;dsimp only;rw [AM (n:=i-1) (by omega) (by omega),AT];split
   .have e1:w64 (q+1)=q+1:=AM (by omega) (by omega);obtain⟨x1,q1⟩:=BR (l:=u) (i:=q+1) (by omega) (by omega);obtain⟨x2,q2⟩:=BR (l:=u) (i:=q) (by omega) (by omega);obtain⟨x3,q3⟩:=BR (l:=List.set u q.toNat x1) (i:=q+1) (by omega) (by rw [List.length_set];omega);simp only [e1,q1,q2,q3,AA];exact ih' (_,q+1) ⟨by simp only [List.length_set];exact hu,by dsimp only;omega⟩ (by dsimp only;omega)
   .rw [AE];exact⟨u,rfl,hu⟩
 .rw [show (m-a==1)=false from by simp [c1],Ag,AE];unfold c6;rw [AM (n:=b-m) (by omega) (by omega)];by_cases c2:b-m=1
  .rw [show (b-m==1)=true from by simp [c2],Af];refine CO (fun x=>a<=x.1/\x.1<=x.2/\x.2<=m) (fun x=>(x.2-x.1).toNat) (fun r:List AD=>r.length=l.length) ?_ big (a,m) ⟨by dsimp only;omega,by dsimp only;omega,by dsimp only;omega⟩ (Bh _ (by dsimp only;omega));rintro L ⟨i,j⟩ ⟨hi,hij,hj⟩ ih;dsimp only at hi hij hj ih;unfold dB;dsimp only;rw [AT];split
   .have eh:w64 (BF (IntKind.u64.wrap (w64 (i+j))) 1)=(i+j) / 2:=Fv (by omega) (by omega);have eh1:w64 ((i+j) / 2+1)=(i+j) / 2+1:=AM (by omega) (by omega);obtain⟨x1,q1⟩:=BR (l:=l) (i:=(i+j) / 2) (by omega) (by omega);obtain⟨x2,q2⟩:=BR (l:=l) (i:=m) (by omega) (by omega);obtain⟨c,hc,_⟩:=Ff x2 x1;simp only [eh,eh1,q1,q2,AA,hc];cases hcc:decide (c<0)
    .rw [show (!false)=true from rfl,Af];exact ih ((i+j) / 2+1,j) ⟨by dsimp only;omega,by dsimp only;omega,by dsimp only;omega⟩ (by dsimp only;omega)
    .rw [show (!true)=false from rfl,Ag];exact ih (i,(i+j) / 2) ⟨by dsimp only;omega,by dsimp only;omega,by dsimp only;omega⟩ (by dsimp only;omega)
   .rw [AE];unfold c7;refine CO (fun x=>x.1.length=l.length/\x.2<=m/\i<=x.2) (fun x=>(x.2-i).toNat) (fun r:List AD=>r.length=l.length) ?_ big (l,m) ⟨rfl,by dsimp only;omega,by dsimp only;omega⟩ (Bh _ (by dsimp only;omega));rintro L' ⟨u,q⟩ ⟨hu,hq,hq2⟩ ih';dsimp only at hu hq hq2 ih';unfold dC PH;dsimp only;rw [AT];split
    .have e1:w64 (q-1)=q-1:=AM (by omega) (by omega);obtain⟨x1,q1⟩:=BR (l:=u) (i:=q-1) (by omega) (by omega);obtain⟨x2,q2⟩:=BR (l:=u) (i:=q) (by omega) (by omega);obtain⟨x3,q3⟩:=BR (l:=List.set u q.toNat x1) (i:=q-1) (by omega) (by rw [List.length_set];omega);simp only [e1,q1,q2,q3,AA];exact ih' (_,q-1) ⟨by simp only [List.length_set];exact hu,by dsimp only;omega,by dsimp only;omega⟩ (by dsimp only;omega)
    .rw [AE];exact⟨u,rfl,hu⟩
  .rw [show (b-m==1)=false from by simp [c2],Ag,AE];have key:∀s t:Int,a<=s->s<=t->t<=(a+b) / 2->t<=m->(a+b) / 2+m-b<=s->Ln l.length (L7 r l a m b (s,t)):=by
    intro s t p1 p2 p3 p4 p5;unfold L7;refine CO (fun x=>a<=x.1/\x.1<=x.2/\x.2<=(a+b) / 2/\x.2<=m/\(a+b) / 2+m-b<=x.1) (fun x=>(x.2-x.1).toNat) (fun r:List AD=>r.length=l.length) ?_ big (s,t) ⟨p1,p2,p3,p4,p5⟩ (Bh _ (by dsimp only;omega));rintro L ⟨i,j⟩ ⟨g1,g2,g3,g4,g5⟩ ih;dsimp only at g1 g2 g3 g4 g5 ih;unfold X4;dsimp only;rw [AT];split
    .have eh:w64 (BF (IntKind.u64.wrap (w64 (i+j))) 1)=(i+j) / 2:=Fv (by omega) (by omega);have eh1:w64 ((i+j) / 2+1)=(i+j) / 2+1:=AM (by omega) (by omega);have ep:w64 (w64 (w64 ((a+b) / 2+m)-1)-(i+j) / 2)=(a+b) / 2+m-1-(i+j) / 2:=by
      rw [AM (n:=(a+b) / 2+m) (by omega) (by omega),AM (n:=(a+b) / 2+m-1) (by omega) (by omega)];exact AM (by omega) (by omega)
     obtain⟨x1,q1⟩:=BR (l:=l) (i:=(i+j) / 2) (by omega) (by omega);obtain⟨x2,q2⟩:=BR (l:=l) (i:=(a+b) / 2+m-1-(i+j) / 2) (by omega) (by omega);obtain⟨c,hc,_⟩:=Ff x2 x1;simp only [e0,eh,eh1,ep,q1,q2,AA,hc];cases hcc:decide (c<0)
     .rw [show (!false)=true from rfl,Af];exact ih ((i+j) / 2+1,j) ⟨by dsimp only;omega,by dsimp only;omega,by dsimp only;omega,by dsimp only;omega,by dsimp only;omega⟩ (by dsimp only;omega)
     .rw [show (!true)=false from rfl,Ag];exact ih (i,(i+j) / 2) ⟨by dsimp only;omega,by dsimp only;omega,by dsimp only;omega,by dsimp only;omega,by dsimp only;omega⟩ (by dsimp only;omega)
    .rw [AE];exact Xg hr h0 h1 h2 h3 hl hk g1 (by omega) (by omega) g5
   unfold c8;rw [e0,AT];split
   .rw [AE,AM (n:=(a+b) / 2+m) (by omega) (by omega),AM (n:=(a+b) / 2+m-b) (by omega) (by omega)];exact key _ _ (by omega) (by omega) (by omega) (by omega) (by omega)
   .rw [AE];exact key _ _ (by omega) (by omega) (by omega) (by omega) (by omega)
theorem Yw:∀k,Lt k (Ek k)
 |0=>by
  intro l a m b h0 h1 h2 h3 hl hk;have:(2:Int) ^ 0=1:=rfl;omega
 |k+1=>iO (Yw k)
theorem SH{l:List AD}{a m b:Int}(h0:0<=a)(h1:a<m)(h2:m<b)(h3:b<=l.length)(hl:l.length<=40):Ln l.length (qT l a m b):=
 Yw 7 l a m b h0 h1 h2 h3 (by omega) (by have:(2:Int) ^ 7=128:=rfl;omega)
theorem XF{l:List AD}(hl:l.length<=40):Ln l.length (Xz l):=by
 unfold Xz lI;have hl3:∀v:List AD,v.length=l.length->Ln l.length (AR (O0 (l.length:Int)) big (v,20)):=by
  intro v hv;refine CO (fun x=>x.1.length=l.length/\(x.2=20\/x.2=40)) (fun x=>(40-x.2).toNat) (fun r:List AD=>r.length=l.length) ?_ big (v,20) ⟨hv,.inl rfl⟩ (Bh _ (by dsimp only;omega));rintro L ⟨u,s⟩ ⟨hu,hs⟩ ih;dsimp only at hu hs ih;unfold O0;dsimp only;rw [AT];split
  .have hs20:s=20:=by omega
   subst hs20;have out:∀w:List AD,w.length=l.length->Ln l.length (Oz L 20 w):=by
    intro w hw;unfold Oz;rw [AM (by omega) (by omega)];exact ih (w,20*2) ⟨hw,.inr rfl⟩ (by dsimp only;omega)
   rw [AM (n:=2*20) (by omega) (by omega)];refine CO (fun x=>x.1.length=l.length/\x.2.2=x.2.1+40/\(x.2.1=0\/x.2.1=40)) (fun x=>(40-x.2.1).toNat) (fun r:List AD=>r.length=l.length) ?_ big (u,0,2*20) ⟨hu,by dsimp only;omega,.inl rfl⟩ (Bh _ (by dsimp only;omega));rintro L' ⟨w,a,b⟩ ⟨hw,hab,ha⟩ ih';dsimp only at hw hab ha ih';unfold cY;dsimp only;rw [AT];split
   .obtain⟨x,hx,hx2⟩:=SH (l:=w) (a:=a) (m:=a+20) (b:=b) (by omega) (by omega) (by omega) (by omega) (by omega);rw [AM (n:=a+20) (by omega) (by omega),hx,AA,AM (n:=2*20) (by omega) (by omega),AM (n:=b+2*20) (by omega) (by omega)];exact ih' (x,b,b+2*20) ⟨hx2.trans hw,by dsimp only;omega,by dsimp only;omega⟩ (by dsimp only;omega)
   .rw [AE];unfold cX;dsimp only;rw [AM (n:=a+20) (by omega) (by omega),AT];split
    .obtain⟨x,hx,hx2⟩:=SH (l:=w) (a:=a) (m:=a+20) (b:=(l.length:Int)) (by omega) (by omega) (by omega) (by omega) (by omega);rw [hx,AA,AE];exact out x (hx2.trans hw)
    .rw [AE];exact out w hw
  .exact⟨u,rfl,hu⟩
 have key:Ln l.length (AR (Kq (l.length:Int)) big (l,0,20)):=by
  refine CO (fun x=>x.1.length=l.length/\0<=x.2.1/\x.2.1<=(l.length:Int)/\x.2.2=x.2.1+20) (fun x=>(60-x.2.1).toNat) (fun r:List AD=>r.length=l.length) ?_ big (l,0,20) ⟨rfl,by dsimp only;omega,by dsimp only;omega,by dsimp only;omega⟩ (Bh _ (by dsimp only;omega));rintro L ⟨u,a,b⟩ ⟨hu,ha,ha2,hab⟩ ih;dsimp only at hu ha ha2 hab ih;unfold Kq;dsimp only;rw [AT];split
  .obtain⟨x,hx,hx2⟩:=YY (l:=u) (a:=a) (b:=b) (by omega) (by omega) (by omega) (by omega);rw [hx,AA,AM (n:=b+20) (by omega) (by omega)];exact ih (x,b,b+20) ⟨hx2.trans hu,by dsimp only;omega,by dsimp only;omega,rfl⟩ (by dsimp only;omega)
  .rw [AE];unfold TN;dsimp only;obtain⟨x,hx,hx2⟩:=YY (l:=u) (a:=a) (b:=(l.length:Int)) (by omega) (by omega) (by omega) (by omega);rw [hx,AA];exact hl3 x (hx2.trans hu)
 obtain⟨x,hx,hx2⟩:=key;rw [hx,AA];exact⟨x,rfl,hx2⟩
theorem nL{l:List AK}{a b:Int}(h0:0<=a)(ha:a<=l.length)(hb:b<=l.length)(hl:l.length<1099511627776):Ln l.length (Rz l a b):=by
 unfold Rz;rw [AM (by omega) (by omega)];refine CO (fun x=>x.1.length=l.length/\a+1<=x.2/\x.2<=2*1099511627776) (fun x=>(b-x.2).toNat) (fun r:List AK=>r.length=l.length) ?_ big (l,a+1) ⟨rfl,by dsimp only;omega,by dsimp only;omega⟩ (Bh _ (by dsimp only;omega));rintro L ⟨v,i⟩ ⟨hv,hi,hi2⟩ ih;dsimp only at hv hi hi2 ih;unfold O4;dsimp only;rw [AT];split
 .rename_i hib;refine CO (fun x=>x.1.length=l.length/\a<=x.2/\x.2<=i) (fun x=>(x.2-a).toNat) (fun r:List AK=>r.length=l.length) ?_ big (v,i) ⟨hv,by dsimp only;omega,by dsimp only;omega⟩ (Bh _ (by dsimp only;omega));rintro L' ⟨u,j⟩ ⟨hu,hj,hj2⟩ ih';dsimp only at hu hj hj2 ih';have out:∀(u:List AK),u.length=l.length->∃r,O3 L i u=some r/\r.length=l.length:=by
   intro u hu;unfold O3;rw [AM (by omega) (by omega)];exact ih (u,i+1) ⟨hu,by dsimp only;omega,by dsimp only;omega⟩ (by dsimp only;omega)
  unfold O5;dsimp only;rw [AT];split
  .rename_i hja;have e1:w64 (j-1)=j-1:=AM (by omega) (by omega);obtain⟨x1,q1⟩:=BR (l:=u) (i:=j) (by omega) (by omega);obtain⟨x2,q2⟩:=BR (l:=u) (i:=j-1) (by omega) (by omega);obtain⟨c,hc,_⟩:=Eh x1 x2;obtain⟨x3,q3⟩:=BR (l:=List.set u j.toNat x2) (i:=j-1) (by omega) (by rw [List.length_set];omega);simp only [e1,q1,q2,AA,hc,AE];unfold Kt;rw [AT];split
   .simp only [e1,q1,q2,q3,AA];exact ih' (_,j-1) ⟨by simp only [List.length_set];exact hu,by dsimp only;omega,by dsimp only;omega⟩ (by dsimp only;omega)
   .rw [AE];exact out u hu
  .rw [AE];unfold Kt;rw [Ag,AE];exact out u hu
 .exact⟨v,rfl,hv⟩
theorem XH{l:List AK}{a b n:Int}(h0:0<=a)(h1:0<=b)(ha:a+n<=l.length)(hb:b+n<=l.length)(hl:l.length<1099511627776):Ln l.length (X6 l a b n):=by
 unfold X6;refine CO (fun x=>x.1.length=l.length/\0<=x.2) (fun x=>(n-x.2).toNat) (fun r:List AK=>r.length=l.length) ?_ big (l,0) ⟨rfl,by dsimp only;omega⟩ (Bh _ (by dsimp only;omega));rintro L ⟨v,i⟩ ⟨hv,hi⟩ ih;dsimp only at hv hi ih;unfold dM;dsimp only;rw [AT];split
 .rename_i hin;have e1:w64 (a+i)=a+i:=AM (by omega) (by omega);have e2:w64 (b+i)=b+i:=AM (by omega) (by omega);have e3:w64 (i+1)=i+1:=AM (by omega) (by omega);obtain⟨x1,q1⟩:=BR (l:=v) (i:=a+i) (by omega) (by omega);obtain⟨x2,q2⟩:=BR (l:=v) (i:=b+i) (by omega) (by omega);obtain⟨x3,q3⟩:=BR (l:=List.set v (a+i).toNat x2) (i:=b+i) (by omega) (by rw [List.length_set];omega);simp only [e1,e2,e3,q1,q2,q3,AA];exact ih (_,i+1) ⟨by simp only [List.length_set];exact hv,by dsimp only;omega⟩ (by dsimp only;omega)
 .exact⟨v,rfl,hv⟩
theorem vP{l:List AK}{a m b:Int}(h0:0<=a)(h1:a<m)(h2:m<b)(h3:b<=l.length)(hl:l.length<1099511627776):Ln l.length (lj l a m b):=by
 unfold lj;rw [AM (n:=m-a) (by omega) (by omega),AM (n:=b-m) (by omega) (by omega)];refine CO (fun x=>x.1.length=l.length/\0<x.2.1/\x.2.1<=m-a/\0<x.2.2/\x.2.2<=b-m) (fun x=>(x.2.1+x.2.2).toNat) (fun r:List AK=>r.length=l.length) ?_ big (l,m-a,b-m) ⟨rfl,by dsimp only;omega,by dsimp only;omega,by dsimp only;omega,by dsimp only;omega⟩ (Bh _ (by dsimp only;omega));rintro L ⟨v,i,j⟩ ⟨hv,hi,hi2,hj,hj2⟩ ih;dsimp only at hv hi hi2 hj hj2 ih;unfold dO;dsimp only;have e1:w64 (m-i)=m-i:=AM (by omega) (by omega);have e2:w64 (w64 (m+j)-i)=m+j-i:=by rw [AM (n:=m+j) (by omega) (by omega)];exact AM (by omega) (by omega)
 by_cases hij:i=j
 .subst hij;rw [show (i != i)=false from by simp,Ag,AE];unfold dN;obtain⟨r,hr,hr2⟩:=XH (l:=v) (a:=m-i) (b:=m) (n:=i) (by omega) (by omega) (by omega) (by omega) (by omega);dsimp only;rw [e1,hr,AA];exact⟨r,rfl,hr2.trans hv⟩
 .rw [show (i != j)=true from by simp [hij],Af,AT];split
  .obtain⟨r,hr,hr2⟩:=XH (l:=v) (a:=m-i) (b:=m) (n:=j) (by omega) (by omega) (by omega) (by omega) (by omega);rw [e1,hr,AA,AM (n:=i-j) (by omega) (by omega)];exact ih (r,i-j,j) ⟨hr2.trans hv,by dsimp only;omega,by dsimp only;omega,by dsimp only;omega,by dsimp only;omega⟩ (by dsimp only;omega)
  .obtain⟨r,hr,hr2⟩:=XH (l:=v) (a:=m-i) (b:=m+j-i) (n:=i) (by omega) (by omega) (by omega) (by omega) (by omega);rw [e1,e2,hr,AA,AM (n:=j-i) (by omega) (by omega)];exact ih (r,i,j-i) ⟨hr2.trans hv,by dsimp only;omega,by dsimp only;omega,by dsimp only;omega,by dsimp only;omega⟩ (by dsimp only;omega)
def SX(k:Nat)(r:Dq):Prop:=
 ∀(l:List AK) (a m b:Int),0<=a->a<m->m<b->b<=l.length->l.length<1099511627776->b-a<=2 ^ k->Ln l.length (r.d (l,a,m,b,(),()))
theorem iN{k:Nat}{r:Dq}(hr:SX k r){l:List AK}{a m b s:Int}(h0:0<=a)(h1:a<m)(h2:m<b)(h3:b<=l.length)(hl:l.length<1099511627776)(hk:b-a<=2 ^ (k+1))
 (g1:a<=s) (g2:s<=(a+b) / 2) (g3:s<=m) (g4:(a+b) / 2+m-b<=s):Ln l.length (Q5 r l a m b s):=by
 have e0:w64 (BF (IntKind.u64.wrap (w64 (a+b))) 1)=(a+b) / 2:=Fv (by omega) (by omega);have e1:w64 (w64 ((a+b) / 2+m)-s)=(a+b) / 2+m-s:=by rw [AM (n:=(a+b) / 2+m) (by omega) (by omega)];exact AM (by omega) (by omega)
 have hk2:(2:Int) ^ (k+1)=2*2 ^ k:=by rw [Int.pow_succ];omega
 have hj16:∀v:List AK,v.length=l.length->Ln l.length (MG r a m b s v):=by
  intro v hv;unfold MG Q8;rw [e0,e1,AT];split
  .rw [AE,AT];split
   .obtain⟨x,hx,hx2⟩:Ln v.length (MH r v ((a+b) / 2) ((a+b) / 2+m-s) b):=hr v ((a+b) / 2) ((a+b) / 2+m-s) b (by omega) (by omega) (by omega) (by omega) (by omega) (by omega);rw [hx,AA];exact⟨x,rfl,hx2.trans hv⟩
   .exact⟨v,rfl,hv⟩
  .rw [AE,Ag];exact⟨v,rfl,hv⟩
 have hj14:∀v:List AK,v.length=l.length->Ln l.length (MF r a m b s v):=by
  intro v hv;unfold MF Q7;rw [e0,AT];split
  .rw [AE,AT];split
   .obtain⟨x,hx,hx2⟩:Ln v.length (MH r v a s ((a+b) / 2)):=hr v a s ((a+b) / 2) (by omega) (by omega) (by omega) (by omega) (by omega) (by omega);rw [hx,AA,AE];exact hj16 x (hx2.trans hv)
   .rw [AE];exact hj16 v hv
  .rw [AE,Ag,AE];exact hj16 v hv
 unfold Q5 Q6;rw [e0,e1,AT];split
 .rw [AE,AT];split
  .obtain⟨x,hx,hx2⟩:=vP (l:=l) (a:=s) (m:=m) (b:=(a+b) / 2+m-s) (by omega) (by omega) (by omega) (by omega) (by omega);rw [hx,AA,AE];exact hj14 x hx2
  .rw [AE];exact hj14 l rfl
 .rw [AE,Ag,AE];exact hj14 l rfl
theorem pX{k:Nat}{r:Dq}(hr:SX k r):SX (k+1) (.of (RJ r)):=by
 intro l a m b h0 h1 h2 h3 hl hk;show Ln l.length (iz r l a m b);have e0:w64 (BF (IntKind.u64.wrap (w64 (a+b))) 1)=(a+b) / 2:=Fv (by omega) (by omega);unfold iz;rw [AM (n:=m-a) (by omega) (by omega)];by_cases c1:m-a=1
 .rw [show (m-a==1)=true from by simp [c1],Af];refine CO (fun x=>m<=x.1/\x.1<=x.2/\x.2<=b) (fun x=>(x.2-x.1).toNat) (fun r:List AK=>r.length=l.length) ?_ big (m,b) ⟨by dsimp only;omega,by dsimp only;omega,by dsimp only;omega⟩ (Bh _ (by dsimp only;omega));rintro L ⟨i,j⟩ ⟨hi,hij,hj⟩ ih;dsimp only at hi hij hj ih;unfold dT;dsimp only;rw [AT];split
  .have eh:w64 (BF (IntKind.u64.wrap (w64 (i+j))) 1)=(i+j) / 2:=Fv (by omega) (by omega);have eh1:w64 ((i+j) / 2+1)=(i+j) / 2+1:=AM (by omega) (by omega);obtain⟨x1,q1⟩:=BR (l:=l) (i:=(i+j) / 2) (by omega) (by omega);obtain⟨x2,q2⟩:=BR (l:=l) (i:=a) (by omega) (by omega);obtain⟨c,hc,_⟩:=Eh x1 x2;simp only [eh,eh1,q1,q2,AA,hc];rw [AT];split
   .exact ih ((i+j) / 2+1,j) ⟨by dsimp only;omega,by dsimp only;omega,by dsimp only;omega⟩ (by dsimp only;omega)
   .exact ih (i,(i+j) / 2) ⟨by dsimp only;omega,by dsimp only;omega,by dsimp only;omega⟩ (by dsimp only;omega)
  .rw [AE];unfold dP;refine CO (fun x=>x.1.length=l.length/\a<=x.2) (fun x=>(i-1-x.2).toNat) (fun r:List AK=>r.length=l.length) ?_ big (l,a) ⟨rfl,by dsimp only;omega⟩ (Bh _ (by dsimp only;omega));rintro L' ⟨u,q⟩ ⟨hu,hq⟩ ih';dsimp only at hu hq ih';unfold dU PL;dsimp only;rw [AM (n:=i-1) (by omega) (by omega),AT];split
   .have e1:w64 (q+1)=q+1:=AM (by omega) (by omega);obtain⟨x1,q1⟩:=BR (l:=u) (i:=q+1) (by omega) (by omega);obtain⟨x2,q2⟩:=BR (l:=u) (i:=q) (by omega) (by omega);obtain⟨x3,q3⟩:=BR (l:=List.set u q.toNat x1) (i:=q+1) (by omega) (by rw [List.length_set];omega);simp only [e1,q1,q2,q3,AA];exact ih' (_,q+1) ⟨by simp only [List.length_set];exact hu,by dsimp only;omega⟩ (by dsimp only;omega)
   .rw [AE];exact⟨u,rfl,hu⟩
 .rw [show (m-a==1)=false from by simp [c1],Ag,AE];unfold dQ;rw [AM (n:=b-m) (by omega) (by omega)];by_cases c2:b-m=1
  .rw [show (b-m==1)=true from by simp [c2],Af];refine CO (fun x=>a<=x.1/\x.1<=x.2/\x.2<=m) (fun x=>(x.2-x.1).toNat) (fun r:List AK=>r.length=l.length) ?_ big (a,m) ⟨by dsimp only;omega,by dsimp only;omega,by dsimp only;omega⟩ (Bh _ (by dsimp only;omega));rintro L ⟨i,j⟩ ⟨hi,hij,hj⟩ ih;dsimp only at hi hij hj ih;unfold dV;dsimp only;rw [AT];split
   .have eh:w64 (BF (IntKind.u64.wrap (w64 (i+j))) 1)=(i+j) / 2:=Fv (by omega) (by omega);have eh1:w64 ((i+j) / 2+1)=(i+j) / 2+1:=AM (by omega) (by omega);obtain⟨x1,q1⟩:=BR (l:=l) (i:=(i+j) / 2) (by omega) (by omega);obtain⟨x2,q2⟩:=BR (l:=l) (i:=m) (by omega) (by omega);obtain⟨c,hc,_⟩:=Eh x2 x1;simp only [eh,eh1,q1,q2,AA,hc];cases hcc:decide (c<0)
    .rw [show (!false)=true from rfl,Af];exact ih ((i+j) / 2+1,j) ⟨by dsimp only;omega,by dsimp only;omega,by dsimp only;omega⟩ (by dsimp only;omega)
    .rw [show (!true)=false from rfl,Ag];exact ih (i,(i+j) / 2) ⟨by dsimp only;omega,by dsimp only;omega,by dsimp only;omega⟩ (by dsimp only;omega)
   .rw [AE];unfold dR;refine CO (fun x=>x.1.length=l.length/\x.2<=m/\i<=x.2) (fun x=>(x.2-i).toNat) (fun r:List AK=>r.length=l.length) ?_ big (l,m) ⟨rfl,by dsimp only;omega,by dsimp only;omega⟩ (Bh _ (by dsimp only;omega));rintro L' ⟨u,q⟩ ⟨hu,hq,hq2⟩ ih';dsimp only at hu hq hq2 ih';unfold dW PL;dsimp only;rw [AT];split
    .have e1:w64 (q-1)=q-1:=AM (by omega) (by omega);obtain⟨x1,q1⟩:=BR (l:=u) (i:=q-1) (by omega) (by omega);obtain⟨x2,q2⟩:=BR (l:=u) (i:=q) (by omega) (by omega);obtain⟨x3,q3⟩:=BR (l:=List.set u q.toNat x1) (i:=q-1) (by omega) (by rw [List.length_set];omega);simp only [e1,q1,q2,q3,AA];exact ih' (_,q-1) ⟨by simp only [List.length_set];exact hu,by dsimp only;omega,by dsimp only;omega⟩ (by dsimp only;omega)
    .rw [AE];exact⟨u,rfl,hu⟩
  .rw [show (b-m==1)=false from by simp [c2],Ag,AE];have key:∀s t:Int,a<=s->s<=t->t<=(a+b) / 2->t<=m->(a+b) / 2+m-b<=s->Ln l.length (ME r l a m b (s,t)):=by
    intro s t p1 p2 p3 p4 p5;unfold ME;refine CO (fun x=>a<=x.1/\x.1<=x.2/\x.2<=(a+b) / 2/\x.2<=m/\(a+b) / 2+m-b<=x.1) (fun x=>(x.2-x.1).toNat) (fun r:List AK=>r.length=l.length) ?_ big (s,t) ⟨p1,p2,p3,p4,p5⟩ (Bh _ (by dsimp only;omega));rintro L ⟨i,j⟩ ⟨g1,g2,g3,g4,g5⟩ ih;dsimp only at g1 g2 g3 g4 g5 ih;unfold X7;dsimp only;rw [AT];split
    .have eh:w64 (BF (IntKind.u64.wrap (w64 (i+j))) 1)=(i+j) / 2:=Fv (by omega) (by omega);have eh1:w64 ((i+j) / 2+1)=(i+j) / 2+1:=AM (by omega) (by omega);have ep:w64 (w64 (w64 ((a+b) / 2+m)-1)-(i+j) / 2)=(a+b) / 2+m-1-(i+j) / 2:=by
      rw [AM (n:=(a+b) / 2+m) (by omega) (by omega),AM (n:=(a+b) / 2+m-1) (by omega) (by omega)];exact AM (by omega) (by omega)
     obtain⟨x1,q1⟩:=BR (l:=l) (i:=(i+j) / 2) (by omega) (by omega);obtain⟨x2,q2⟩:=BR (l:=l) (i:=(a+b) / 2+m-1-(i+j) / 2) (by omega) (by omega);obtain⟨c,hc,_⟩:=Eh x2 x1;simp only [e0,eh,eh1,ep,q1,q2,AA,hc];cases hcc:decide (c<0)
     .rw [show (!false)=true from rfl,Af];exact ih ((i+j) / 2+1,j) ⟨by dsimp only;omega,by dsimp only;omega,by dsimp only;omega,by dsimp only;omega,by dsimp only;omega⟩ (by dsimp only;omega)
     .rw [show (!true)=false from rfl,Ag];exact ih (i,(i+j) / 2) ⟨by dsimp only;omega,by dsimp only;omega,by dsimp only;omega,by dsimp only;omega,by dsimp only;omega⟩ (by dsimp only;omega)
    .rw [AE];exact iN hr h0 h1 h2 h3 hl hk g1 (by omega) (by omega) g5
   unfold dS;rw [e0,AT];split
   .rw [AE,AM (n:=(a+b) / 2+m) (by omega) (by omega),AM (n:=(a+b) / 2+m-b) (by omega) (by omega)];exact key _ _ (by omega) (by omega) (by omega) (by omega) (by omega)
   .rw [AE];exact key _ _ (by omega) (by omega) (by omega) (by omega) (by omega)
theorem nz:∀k,SX k (El k)
 |0=>by
  intro l a m b h0 h1 h2 h3 hl hk;have:(2:Int) ^ 0=1:=rfl;omega
 |k+1=>pX (nz k)
theorem Yf{l:List AK}{a m b:Int}(h0:0<=a)(h1:a<m)(h2:m<b)(h3:b<=l.length)(hl:l.length<=40):Ln l.length (qV l a m b):=
 nz 7 l a m b h0 h1 h2 h3 (by omega) (by have:(2:Int) ^ 7=128:=rfl;omega)
theorem bk{l:List AK}(hl:l.length<=40):Ln l.length (X8 l):=by
 unfold X8 lk;have hl3:∀v:List AK,v.length=l.length->Ln l.length (AR (PN (l.length:Int)) big (v,20)):=by
  intro v hv;refine CO (fun x=>x.1.length=l.length/\(x.2=20\/x.2=40)) (fun x=>(40-x.2).toNat) (fun r:List AK=>r.length=l.length) ?_ big (v,20) ⟨hv,.inl rfl⟩ (Bh _ (by dsimp only;omega));rintro L ⟨u,s⟩ ⟨hu,hs⟩ ih;dsimp only at hu hs ih;unfold PN;dsimp only;rw [AT];split
  .have hs20:s=20:=by omega
   subst hs20;have out:∀w:List AK,w.length=l.length->Ln l.length (PM L 20 w):=by
    intro w hw;unfold PM;rw [AM (by omega) (by omega)];exact ih (w,20*2) ⟨hw,.inr rfl⟩ (by dsimp only;omega)
   rw [AM (n:=2*20) (by omega) (by omega)];refine CO (fun x=>x.1.length=l.length/\x.2.2=x.2.1+40/\(x.2.1=0\/x.2.1=40)) (fun x=>(40-x.2.1).toNat) (fun r:List AK=>r.length=l.length) ?_ big (u,0,2*20) ⟨hu,by dsimp only;omega,.inl rfl⟩ (Bh _ (by dsimp only;omega));rintro L' ⟨w,a,b⟩ ⟨hw,hab,ha⟩ ih';dsimp only at hw hab ha ih';unfold dY;dsimp only;rw [AT];split
   .obtain⟨x,hx,hx2⟩:=Yf (l:=w) (a:=a) (m:=a+20) (b:=b) (by omega) (by omega) (by omega) (by omega) (by omega);rw [AM (n:=a+20) (by omega) (by omega),hx,AA,AM (n:=2*20) (by omega) (by omega),AM (n:=b+2*20) (by omega) (by omega)];exact ih' (x,b,b+2*20) ⟨hx2.trans hw,by dsimp only;omega,by dsimp only;omega⟩ (by dsimp only;omega)
   .rw [AE];unfold dX;dsimp only;rw [AM (n:=a+20) (by omega) (by omega),AT];split
    .obtain⟨x,hx,hx2⟩:=Yf (l:=w) (a:=a) (m:=a+20) (b:=(l.length:Int)) (by omega) (by omega) (by omega) (by omega) (by omega);rw [hx,AA,AE];exact out x (hx2.trans hw)
    .rw [AE];exact out w hw
  .exact⟨u,rfl,hu⟩
 have key:Ln l.length (AR (Kx (l.length:Int)) big (l,0,20)):=by
  refine CO (fun x=>x.1.length=l.length/\0<=x.2.1/\x.2.1<=(l.length:Int)/\x.2.2=x.2.1+20) (fun x=>(60-x.2.1).toNat) (fun r:List AK=>r.length=l.length) ?_ big (l,0,20) ⟨rfl,by dsimp only;omega,by dsimp only;omega,by dsimp only;omega⟩ (Bh _ (by dsimp only;omega));rintro L ⟨u,a,b⟩ ⟨hu,ha,ha2,hab⟩ ih;dsimp only at hu ha ha2 hab ih;unfold Kx;dsimp only;rw [AT];split
  .obtain⟨x,hx,hx2⟩:=nL (l:=u) (a:=a) (b:=b) (by omega) (by omega) (by omega) (by omega);rw [hx,AA,AM (n:=b+20) (by omega) (by omega)];exact ih (x,b,b+20) ⟨hx2.trans hu,by dsimp only;omega,by dsimp only;omega,rfl⟩ (by dsimp only;omega)
  .rw [AE];unfold Tp;dsimp only;obtain⟨x,hx,hx2⟩:=nL (l:=u) (a:=a) (b:=(l.length:Int)) (by omega) (by omega) (by omega) (by omega);rw [hx,AA];exact hl3 x (hx2.trans hu)
 obtain⟨x,hx,hx2⟩:=key;rw [hx,AA];exact⟨x,rfl,hx2⟩
end Lv.P
