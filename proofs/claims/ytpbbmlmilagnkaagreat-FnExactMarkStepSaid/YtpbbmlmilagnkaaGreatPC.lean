/- Plain laws about what the program computes. -/
import Derived.Test.YtpbbmlmilagnkaaGreatPA
set_option linter.unusedVariables false
set_option linter.unusedSimpArgs false
set_option linter.unusedSectionVars false
open Int renaming eq_ofNat_of_zero_le->A2,tdiv_eq_ediv_of_nonneg->E6,tmod_eq_emod_of_nonneg->C8,toNat_natCast->AU
open List renaming cons_append->Dh,drop_drop->CX,drop_eq_getElem_cons->FH,drop_eq_nil_iff->Ea,drop_eq_nil_of_le->A1,drop_left->DV,drop_zero->CH,flatMap_cons->CP,getElem?_drop->BU,getElem?_eq_getElem->Ad,getElem?_eq_none->Cd,length_append->AO,length_cons->AM,length_nil->AQ,length_set->Cf,nil_append->B1
open Nat renaming add_assoc->CB,div_lt_iff_lt_mul->CC,lt_or_ge->AY,mod_eq_of_lt->Hi,mul_le_mul_right->AV,pow_le_pow_right->Ed,pow_succ->Ff,xor_lt_two_pow->Cz,zero_add->Ai
namespace Lv.P
open Go (IntKind BinOp UnOp)
@[simp] theorem fb(a b c:Int):D9 a b c=some (decide (b<=a/\a<=c)):=by
 grind[D9,UP,BD,AS]
@[simp] theorem Om(a b c:Int):Cy a b c=some (decide (b<=a/\a<=c)):=by
 grind[Cy,QJ,BD,AS]
def EA(n:Nat):List UInt8:=if n<128 then [UInt8.ofNat n] else UInt8.ofNat (n % 128+128)::EA (n / 128)
decreasing_by omega
def pN(n:Int):List UInt8:=if 0<=n/\n<=2147483647 then EA n.toNat else []
theorem Ks{n:Nat}(h:n<128):EA n=[UInt8.ofNat n]:=by rw[EA,if_pos h]
theorem Of{n:Nat}(h:128<=n):EA n=UInt8.ofNat (n % 128+128)::EA (n / 128):=by rw[EA,if_neg (by omega)]
theorem GJ(n:Nat):0<(EA n).length:=by rw[EA];split<;>simp
theorem T3:∀(k n:Nat),n<128 ^ (k+1)->(EA n).length<=k+1
 |0,n,h=>by rw[Ks (by simpa using h)];simp|k+1,n,h=>by
  rcases AY n 128 with h1|h1
  .rw[Ks h1];simp
  .rw[Of h1];have:=T3 k (n / 128) (by rw[CC (by omega)];rw[Ff]at h;exact h);simp only[AM];omega
theorem Hp{n:Nat}(h:n<=2147483647):(EA n).length<=5:=T3 4 n (by omega)
theorem Ml(n:Int):(pN n).length<=5:=by unfold pN;split
                                       .exact Hp (by omega)
                                       .simp
theorem z7{F:(Int×List UInt8->AA (List UInt8))->Int×List UInt8->AA (List UInt8)}
 (hF:∀L n acc,F L (n,acc)=if n<128 then gd (acc.length+1<=lim) (some (acc++[toB n])) else gd (acc.length+1<=lim) (L (w64 (Int.tdiv n 128),acc++[toB (w64 (Int.tmod n 128+128))])))
 {n:Nat} (hn:n<=2147483647):Aw F big ((n:Int),[])=some (EA n):=by
 have:=ABB (F:=F) (x:=((n:Int),[])) (fun x=>some (x.2++EA x.1.toNat)) (fun x=>0<=x.1/\x.1<=2147483647/\x.2.length+(EA x.1.toNat).length<=5) (fun x=>x.1.toNat) ?_ ?_ ?_
 .simpa using this
 .rintro L ⟨m,acc⟩ ⟨h0,h1,h2⟩ hL;dsimp only at h0 h1 h2 hL ⊢;obtain⟨m,rfl⟩:=A2 h0;rw[hF];simp only[AU]at h2 hL ⊢;have hlim:acc.length+1<=lim:=by have:=GJ m;unfold lim;omega
  by_cases h:m<128
  .rw[if_pos (by omega),CG hlim,Ks h,AAQ (by omega)]
  .have e1:Int.tdiv (m:Int) 128=((m / 128:Nat):Int):=by
    rw[E6 (by omega)];rfl
   have e2:Int.tmod (m:Int) 128+128=((m % 128+128:Nat):Int):=by
    rw[C8 (by omega)];omega
   have hp:=Of (n:=m) (by omega);rw[if_neg (by omega),CG hlim,e1,e2,Ao (by omega) (by omega),Ao (by omega) (by omega),AAQ (by omega)]
   grind
 .refine⟨by dsimp only;omega,by dsimp only;omega,?_⟩;have:=Hp hn;simpa using this
 .dsimp only;omega
@[simp] theorem OI(n:Int):Vu n=some (pN n):=by
 unfold Vu pN;simp only[fb,AE,BB,BD];split
 .rename_i h;obtain⟨m,rfl⟩:=A2 h.1;refine z7 (fun L n acc=>?_) (by omega);unfold kX kW;simp only[BD,AS,AM,AQ,Ai];by_cases h:n>127
  .grind
  .rw[if_neg h,if_pos (by omega)]
 .rfl
@[simp] theorem Hm(n:Int):Ql n=some (pN n):=by
 unfold Ql pN;simp only[Om,AE,BB,BD];split
 .rename_i h;obtain⟨m,rfl⟩:=A2 h.1;refine z7 (fun L n acc=>?_) (by omega);unfold lT lS;simp only[BD,AS,AM,AQ,Ai];by_cases h:n>=128
  .grind
  .rw[if_neg h,if_pos (by omega)]
 .rfl
def rdN:Nat->Nat->Nat->List UInt8->AA (Nat×Nat)
 |0,_,_,_=>none|_+1,_,_,[]=>none|f+1,k,a,d::l=>
  if d.toNat<128 then (if (0<k/\d.toNat=0)\/2147483647<a+(d.toNat % 128)*2 ^ (7*k) then none else some (a+(d.toNat % 128)*2 ^ (7*k),k+1))
  else rdN f (k+1) (a+(d.toNat % 128)*2 ^ (7*k)) l
def dg(at_:Nat):AA (Nat×Nat)->Int×Int×Bool|some (n,m)=>((n:Int),((at_+m:Nat):Int),true)|none=>(0,0,false)
def gN(b:List UInt8)(i:Int):Int×Int×Bool:=if 0<=i/\i<b.length then dg i.toNat (rdN 5 0 0 (b.drop i.toNat)) else (0,0,false)
theorem pI{c s:Nat}(hc:c<128)(hs:s<=28):Zl (c:Int) (s:Int)=((c*2 ^ s:Nat):Int):=by
 have h1:c*2 ^ s<2 ^ 35:=by
  have:2 ^ s<=2 ^ 28:=Ed (by omega) hs
  calc c*2 ^ s<=127*2 ^ 28:=Nat.mul_le_mul (by omega) this
   _<2 ^ 35:=by decide
 grind[IntKind.bits,R4]
theorem Lo{n:Nat}(h:n<2 ^ 63):(BitVec.ofInt IntKind.i64.bits (n:Int)).toNat=n:=by
 simp only[IntKind.bits,BitVec.toNat_ofInt];omega
theorem AIy{a b:Nat}(ha:a<2 ^ 63)(hb:b<2 ^ 63):orI (a:Int) (b:Int)=((a |||b:Nat):Int):=by
 unfold orI;rw[BitVec.toNat_or,Lo ha,Lo hb];have:a |||b<2 ^ 63:=Nat.or_lt_two_pow ha hb;rw[R4 (by omega) (by omega)]
theorem AK4{a c s:Nat}(ha:a<2 ^ s):a |||c*2 ^ s=a+c*2 ^ s:=by
 have:=Nat.two_pow_add_eq_or_of_lt ha c;rw[Nat.or_comm,Nat.mul_comm,<-this,Nat.add_comm]
theorem oQ:∀(k n:Nat),n<128 ^ (k+1)->((EA n).length=k+1↔k=0\/128 ^ k<=n)
 |0,n,h=>by rw[Ks (by simpa using h)];simp|k+1,n,h=>by
  rcases AY n 128 with h1|h1
  .grind[Ks]
  .rw[Of h1];have hd:n / 128<128 ^ (k+1):=by rw[CC (by omega)];rw[Ff]at h;exact h
   have:=oQ k (n / 128) hd;have e:128 ^ k<=n / 128↔128 ^ (k+1)<=n:=by rw[Nat.le_div_iff_mul_le (by omega),Ff]
   grind
theorem AK7(k:Nat):(2:Nat) ^ (7*k)=128 ^ k:=by rw[Nat.pow_mul]
theorem digit{a k c:Nat}(hk:k<5)(ha:a<128 ^ k)(hc:c<128):a+c*2 ^ (7*k)<128 ^ (k+1)/\a+c*2 ^ (7*k)<2 ^ 35:=by
 rw[AK7];have h1:a+c*128 ^ k<128 ^ (k+1):=by
  have:c*128 ^ k<=127*128 ^ k:=AV _ (by omega);rw[Ff];omega
 refine⟨h1,Nat.lt_of_lt_of_le h1 ?_⟩
 calc 128 ^ (k+1)<=128 ^ 5:=Ed (by omega) (by omega)
  _=2 ^ 35:=by decide
theorem MD{b:List UInt8}(hb:b.length<2 ^ 62){i:Nat}(hi:i<2 ^ 62):∀(f k a n:Nat),f+k=5->f<n->a<128 ^ k ->
 Aw (LZ b i) n ((a:Int),(k:Int))=some (dg i (rdN f k a (b.drop (i+k))))
 |0,k,a,n,hf,hn,ha=>by
  obtain⟨n,rfl⟩:∃m,n=m+1:=⟨n-1,by omega⟩;rw[DF];unfold LZ mj;simp only[BD,AS];rw[if_neg (by omega)];rfl
 |f+1,k,a,n,hf,hn,ha=>by
  obtain⟨n,rfl⟩:∃m,n=m+1:=⟨n-1,by omega⟩;rw[DF];generalize hL:Aw (LZ b i) n=L;unfold LZ;simp only[BD,AS];rw[if_pos (by omega),if_neg (by omega)];unfold Qw Qx;simp only[BD,AS,BL,GM,ge_iff_le,beq_iff_eq,decide_eq_true_eq];rw[Ao (n:=(b.length:Int)-k) (by omega) (by omega)];cases hl:b.drop (i+k) with
  |nil=>
   have:b.length<=i+k:=Ea.1 hl;rw[if_pos (by omega)];rfl
  |cons d l=>
   have hlt:i+k<b.length:=by
    rcases AY (i+k) b.length with h|h
    .exact h
    .rw[A1 h]at hl;cases hl
   have hd:b[i+k]?=some d:=by
    have:=BU (xs:=b) (i:=i+k) (j:=0);rw[hl]at this;simpa using this.symm
   have hl':b.drop (i+(k+1))=l:=by
    rw[<-CB,<-CX,hl];rfl
   rw[if_neg (by omega),Ao (n:=(i:Int)+k) (by omega) (by omega),show (i:Int)+k=((i+k:Nat):Int) from by push_cast;rfl,Fg,hd,AE];have hd8:d.toNat<256:=d.toNat_lt;have e7:w64 (7*(k:Int))=((7*k:Nat):Int):=by rw[Ao (by omega) (by omega)];push_cast;rfl
   have ed:w64 ((d.toNat:Nat):Int)=(d.toNat:Int):=Ao (by omega) (by omega);have em:Int.tmod (d.toNat:Int) 128=((d.toNat % 128:Nat):Int):=by rw[C8 (by omega)];rfl
   obtain⟨hs1,hs2⟩:=digit (a:=a) (k:=k) (c:=d.toNat % 128) (by omega) ha (by omega);have hor:orI (a:Int) (Zl ((d.toNat % 128:Nat):Int) ((7*k:Nat):Int))=((a+(d.toNat % 128)*2 ^ (7*k):Nat):Int):=by
    rw[pI (by omega) (by omega)];rw[AIy (by have:=Ed (n:=128) (by omega) (show k<=5 by omega);omega) (by omega),AK4 (by rw[AK7];exact ha)]
   rw[e7,CG (by omega),ed,em,hor];simp only[rdN];have e1:w64 ((k:Int)+1)=((k+1:Nat):Int):=Ao (by omega) (by omega);by_cases h1:d.toNat<128
   .grind[dg,Prod.mk.injEq,Ao]
   .rw[if_neg (by omega),if_neg h1,e1,<-hL,MD hb hi f (k+1) _ n (by omega) (by omega) hs1,hl']
theorem Lg{b:List UInt8}(hb:b.length<2 ^ 62){i:Nat}(hi:i<2 ^ 62):∀(f k a n:Nat),f+k=5->f<n->a<128 ^ k ->
 Aw (Ng b i) n ((a:Int),(k:Int))=some (dg i (rdN f k a (b.drop (i+k))))
 |0,k,a,n,hf,hn,ha=>by
  obtain⟨n,rfl⟩:∃m,n=m+1:=⟨n-1,by omega⟩;rw[DF];unfold Ng Qy Wz;simp only[BD,AS];rw[if_neg (by omega)];rfl
 |f+1,k,a,n,hf,hn,ha=>by
  obtain⟨n,rfl⟩:∃m,n=m+1:=⟨n-1,by omega⟩;rw[DF];generalize hL:Aw (Ng b i) n=L;unfold Ng;simp only[BD,AS];rw[if_pos (by omega)];unfold Qy Wz;simp only[BD,AS,GM,bne_iff_ne,Hm,AE,decide_eq_true_eq];rw[Ao (n:=(i:Int)+k) (by omega) (by omega),show (i:Int)+k=((i+k:Nat):Int) from by push_cast;rfl];cases hl:b.drop (i+k) with
  |nil=>
   have:b.length<=i+k:=Ea.1 hl;rw[if_neg (by omega)];rfl
  |cons d l=>
   have hlt:i+k<b.length:=by
    rcases AY (i+k) b.length with h|h
    .exact h
    .rw[A1 h]at hl;cases hl
   have hd:b[i+k]?=some d:=by
    have:=BU (xs:=b) (i:=i+k) (j:=0);rw[hl]at this;simpa using this.symm
   have hl':b.drop (i+(k+1))=l:=by
    rw[<-CB,<-CX,hl];rfl
   rw[if_pos (by omega),Fg,hd,AE];have hd8:d.toNat<256:=d.toNat_lt;have e7:w64 (7*(k:Int))=((7*k:Nat):Int):=by rw[Ao (by omega) (by omega)];push_cast;rfl
   have ed:w64 ((d.toNat:Nat):Int)=(d.toNat:Int):=Ao (by omega) (by omega);have em:Int.tmod (d.toNat:Int) 128=((d.toNat % 128:Nat):Int):=by rw[C8 (by omega)];rfl
   obtain⟨hs1,hs2⟩:=digit (a:=a) (k:=k) (c:=d.toNat % 128) (by omega) ha (by omega);have hor:w64 ((a:Int)+(Zl ((d.toNat % 128:Nat):Int) ((7*k:Nat):Int)))=((a+(d.toNat % 128)*2 ^ (7*k):Nat):Int):=by
    rw[pI (by omega) (by omega),Ao (by omega) (by omega)];push_cast;rfl
   rw[e7,CG (by omega),ed,em,hor];simp only[rdN,Hm,AE];have e1:w64 ((k:Int)+1)=((k+1:Nat):Int):=Ao (by omega) (by omega);rw[e1];by_cases h1:d.toNat<128
   .rw[if_pos (by omega),if_pos h1];have hpow:128 ^ k<=a+(d.toNat % 128)*2 ^ (7*k)↔d.toNat≠0:=by
     rw[AK7];constructor
     .rintro h h0;rw[h0]at h;simp at h;omega
     .intro h;have:1*128 ^ k<=d.toNat % 128*128 ^ k:=AV _ (by omega);omega
    have hlen:((pN ((a+(d.toNat % 128)*2 ^ (7*k):Nat):Int)).length:Int)≠((k+1:Nat):Int)↔(0<k/\d.toNat=0)\/2147483647<a+(d.toNat % 128)*2 ^ (7*k):=by
     unfold pN;split
     .rename_i hle;rw[AU];have:=oQ k _ hs1;rw[hpow]at this;rw[Ne,Int.ofNat_inj,this];omega
     .simp only[AQ];omega
    grind[dg,Ao]
   .rw[if_neg (by omega),if_neg h1,<-hL,Lg hb hi f (k+1) _ n (by omega) (by omega) hs1,hl']
theorem Kw{b:List UInt8}(hb:b.length<2 ^ 62)(i:Int)(hi:i<2 ^ 62):Ww b i=some (gN b i):=by
 unfold Ww gN;by_cases h0:0<=i
 .obtain⟨j,rfl⟩:=A2 h0;have:=MD hb (i:=j) (by omega) 5 0 0 big (by omega) (HQ _ (by omega)) (by omega);refine Eq.trans this ?_;simp only[AU,Nat.add_zero];split
  .rfl
  .rw[A1 (by omega)];rfl
 .obtain⟨n,hn⟩:=NL 0 (by omega)
  grind[DF,LZ,Qw,BD,AS]
theorem Km{b:List UInt8}(hb:b.length<2 ^ 62)(i:Int):Wy b i=some (gN b i):=by
 unfold Wy gN;simp only[Om,AE,BB,BD];rw[Ao (by omega) (by omega)];by_cases h0:0<=i/\i<b.length
 .obtain⟨j,rfl⟩:=A2 h0.1;rw[if_pos (by omega),if_pos h0];have:=Lg hb (i:=j) (by omega) 5 0 0 big (by omega) (HQ _ (by omega)) (by omega)
  grind
 grind
theorem AJo{n:Nat}(h:n<256):(UInt8.ofNat n).toNat=n:=by simp;omega
theorem gl:∀(f k a n:Nat) (l:List UInt8),(EA n).length<=f->(k=0\/n≠0)->a+n*2 ^ (7*k)<=2147483647->rdN f k a (EA n++l)=some (a+n*2 ^ (7*k),k+(EA n).length)
 |0,k,a,n,l,h,_,_=>by have:=GJ n;omega|f+1,k,a,n,l,h,hk,hm=>by
  rcases AY n 128 with h1|h1
  .rw[Ks h1];simp only[Dh,B1,rdN,AM,AQ];rw[AJo (by omega),if_pos h1,Hi h1,if_neg (by omega)]
  .rw[Of h1]at h ⊢;simp only[Dh,rdN,AM]at h ⊢;rw[AJo (by omega),if_neg (by omega)];have e:(n % 128+128) % 128=n % 128:=by omega
   have e2:a+n % 128*2 ^ (7*k)+n / 128*2 ^ (7*(k+1))=a+n*2 ^ (7*k):=by
    grind[Nat.mod_add_div]
   rw[e,gl f (k+1) _ (n / 128) l (by omega) (by omega) (by rw[e2];exact hm),e2];congr 2;omega
theorem Ud:∀(f k a:Nat) (l:List UInt8) (N m:Nat),rdN f k a l=some (N,m)->∃n l',l=EA n++l'/\N=a+n*2 ^ (7*k)/\m=k+(EA n).length/\(k=0\/n≠0)/\N<=2147483647
 |0,k,a,l,N,m,h=>by cases h
 |f+1,k,a,[],N,m,h=>by cases h
 |f+1,k,a,d::l,N,m,h=>by
  have hd8:d.toNat<256:=d.toNat_lt;simp only[rdN]at h;split at h
  .rename_i h1;split at h
   .cases h
   .rename_i h2;cases h;refine⟨d.toNat,l,?_,?_,?_,by omega,by omega⟩
    .rw[Ks h1];simp
    .rw[Hi h1]
    .rw[Ks h1];rfl
  .rename_i h1;obtain⟨n,l',h3,h4,h5,h6,h7⟩:=Ud f (k+1) _ l N m h;have hn:n≠0:=by omega
   have hge:128<=d.toNat % 128+128*n:=by omega
   refine⟨d.toNat % 128+128*n,l',?_,?_,?_,.inr (by omega),h7⟩
   .rw[Of hge,show (d.toNat % 128+128*n) % 128+128=d.toNat by omega,show (d.toNat % 128+128*n) / 128=n by omega,h3];simp
   .grind
   .rw[Of hge,show (d.toNat % 128+128*n) / 128=n by omega,h5];simp only[AM];omega
def rdL:Nat->List UInt8->AA (List Int)
 |0,_=>none|f+1,[]=>some []|f+1,l=>match rdN 5 0 0 l with|some (n,m)=>(rdL f (l.drop m)).map ((n:Int)::·)|none=>none
def okN(n:Int):Prop:=0<=n/\n<=2147483647
def pL(l:List Int):List UInt8:=l.flatMap pN
theorem AFi{n:Int}(h:okN n):pN n=EA n.toNat:=by unfold pN;rw[if_pos (show 0<=n/\n<=2147483647 from h)]
theorem AFj{n:Int}(h:okN n):0<(pN n).length:=by rw[AFi h];exact GJ _
theorem ALE{n:Int}(h:okN n)(l:List UInt8):rdN 5 0 0 (pN n++l)=some (n.toNat,(pN n).length):=by
 rw[AFi h,gl 5 0 0 n.toNat l (Hp (by have:=h.2;omega)) (.inl rfl) (by have:=h.2;simp;omega)];simp
theorem AG2:∀(l:List Int) (f:Nat),(∀n∈l,okN n)->(pL l).length<f->rdL f (pL l)=some l
 | [],f,_,h=>by
  obtain⟨f,rfl⟩:∃g,f=g+1:=⟨f-1,by omega⟩;rfl
 |n::l,f,hn,h=>by
  obtain⟨f,rfl⟩:∃g,f=g+1:=⟨f-1,by omega⟩;have h0:=hn n (by simp);have hp:=AFj h0;have e:pL (n::l)=pN n++pL l:=by simp[pL]
  rw[e]at h ⊢;have hne:pN n++pL l≠[]:=by intro h;rw[List.append_eq_nil_iff]at h;rw[h.1]at hp;simp at hp
  rw[rdL.eq_3 _ _ (by simpa using hne),ALE h0];simp only[DV];rw[AG2 l f (fun m hm=>hn m (by simp[hm])) (by rw[AO]at h;omega)];simp only[Option.map_some,Int.toNat_of_nonneg h0.1]
theorem gk:∀(f:Nat) (s:List UInt8) (l:List Int),rdL f s=some l->s=pL l/\∀n∈l,okN n
 |0,s,l,h=>by cases h
 |f+1,[],l,h=>by cases h;exact⟨rfl,by simp⟩
 |f+1,d::s,l,h=>by
  rw[rdL.eq_3 _ _ (by simp)]at h;split at h
  .rename_i n m hr;obtain⟨n',l',h1,h2,h3,_,h5⟩:=Ud _ _ _ _ _ _ hr;simp only[Nat.mul_zero,Nat.pow_zero,Nat.mul_one,Ai]at h2 h3;subst h2 h3;rw[Option.map_eq_some_iff]at h;obtain⟨l1,h6,rfl⟩:=h;rw[h1,DV]at h6;obtain⟨h7,h8⟩:=gk f l' l1 h6;refine⟨?_,?_⟩
   .rw[h1,h7];simp only[pL,CP];rw[AFi ⟨by omega,by omega⟩];simp
   .intro x hx;rcases List.mem_cons.1 hx with rfl|hx
    .exact⟨by omega,by omega⟩
    .exact h8 x hx
  .cases h
def ALB:AA (List Int)->List Int×Bool|some l=>(l,true)|none=>([],false)
theorem Y1{b:List UInt8}(hb:b.length<=1048576){G:List UInt8->Int->AA (Int×Int×Bool)}(hG:∀i:Int,i<2 ^ 62->G b i=some (gN b i))
 {F:(List Int×Int->AA (List Int×Bool))->List Int×Int->AA (List Int×Bool)}
 (hF:∀L acc i,F L (acc,i)=if i<(b.length:Int) then bd (G b i) fun x=>br (!x.2.2) (some ([],false)) (gd (acc.length+1<=lim) (L (acc++[x.1],x.2.1))) else some (acc,true)) :
 ∀(f i n:Nat) (acc:List Int),b.length<f+i->f<=n->acc.length<=i->i<=b.length->Aw F n (acc,(i:Int))=some (match rdL f (b.drop i) with|some l=>(acc++l,true)|none=>([],false))
 |0,i,n,acc,h1,h2,h3,h4=>by omega|f+1,i,n,acc,h1,h2,h3,h4=>by
  obtain⟨n,rfl⟩:∃m,n=m+1:=⟨n-1,by omega⟩;rw[DF,hF];by_cases hi:i<b.length
  .rw[if_pos (by omega),hG _ (by omega),AE];unfold gN;rw[if_pos (by omega),AU];have hne:b.drop i≠[]:=by intro h;rw[Ea]at h;omega
   rw[rdL.eq_3 _ _ (by simpa using hne)];cases hr:rdN 5 0 0 (b.drop i) with
   |none=>rfl|some p=>
    obtain⟨v,m⟩:=p;obtain⟨n',l',k1,k2,k3,_,_⟩:=Ud _ _ _ _ _ _ hr;have hm:0<m:=by have:=GJ n';omega
    have hmi:i+m<=b.length:=by
     have:=congrArg List.length k1;rw[List.length_drop,AO]at this;omega
    simp only[dg,BB,BL];rw[CG (by unfold lim;omega),Y1 hb hG hF f (i+m) n (acc++[(v:Int)]) (by omega) (by omega) (by rw[AO];simp;omega) hmi,<-CX]
    grind
  .rw[if_neg (by omega),A1 (by omega)];simp[rdL]
theorem iP{b:List UInt8}(hb:b.length<=1048576):yy b=some (ALB (rdL (b.length+1) b)):=by
 unfold yy;have:=Y1 hb (G:=Ww) (F:=Wx b) (fun i hi=>Kw (by omega) i hi) (fun L acc i=>by unfold Wx ml;simp only[BD,AS];rfl) (b.length+1) 0 big [] (by omega) (by have:=MK;omega) (by simp) (by omega);refine Eq.trans this ?_;simp only[CH,B1];cases rdL (b.length+1) b<;>rfl
theorem fU{b:List UInt8}(hb:b.length<=1048576):yz b=some (ALB (rdL (b.length+1) b)):=by
 unfold yz;have:=Y1 hb (G:=Wy) (F:=W0 b) (fun i hi=>Km (by omega) i) (fun L acc i=>by unfold W0 mn;simp only[BD,AS];rfl) (b.length+1) 0 big [] (by omega) (by have:=MK;omega) (by simp) (by omega);refine Eq.trans this ?_;simp only[CH,B1];cases rdL (b.length+1) b<;>rfl
theorem Yq{l:List Int}(hl:l.length<=10000000){G:Int->AA (List UInt8)}(hG:∀n,G n=some (pN n))
 {F:(List UInt8×Int->AA (List UInt8))->List UInt8×Int->AA (List UInt8)}
 (hF:∀L acc i,F L (acc,i)=if i<(l.length:Int) then bd (at? l i) fun x=>bd (G x) fun y=>gd (acc.length+y.length<=lim) (L (acc++y,w64 (i+1))) else some acc) :
 ∀(f i n:Nat) (acc:List UInt8),l.length<f+i->f<=n->acc.length<=5*i->i<=l.length->Aw F n (acc,(i:Int))=some (acc++pL (l.drop i))
 |0,i,n,acc,h1,h2,h3,h4=>by omega|f+1,i,n,acc,h1,h2,h3,h4=>by
  obtain⟨n,rfl⟩:∃m,n=m+1:=⟨n-1,by omega⟩;rw[DF,hF];by_cases hi:i<l.length
  .rw[if_pos (by omega),Fg,Ad hi,AE,hG,AE];have:=Ml l[i];rw[CG (by unfold lim;omega),Ao (by omega) (by omega)];have:=Yq hl hG hF f (i+1) n (acc++pN l[i]) (by omega) (by omega) (by rw[AO];omega) hi;refine Eq.trans this ?_;rw[FH hi];simp only[pL,CP,List.append_assoc]
  .rw[if_neg (by omega),A1 (by omega)];simp[pL]
theorem iO{l:List Int}(hl:l.length<=10000000):yU l=some (pL l):=by
 unfold yU;have:=Yq hl (G:=Vu) (F:=WH l) OI (fun L acc i=>by unfold WH lK;simp only[BD,AS]) (l.length+1) 0 big [] (by omega) (by have:=MK;omega) (by simp) (by omega);simpa using this
theorem fV{l:List Int}(hl:l.length<=10000000):yV l=some (pL l):=by
 unfold yV;have:=Yq hl (G:=Ql) (F:=WQ l) Hm (fun L acc i=>by unfold WQ lU;simp only[BD,AS]) (l.length+1) 0 big [] (by omega) (by have:=MK;omega) (by simp) (by omega);simpa using this
def fld(n:Int):Bool:=decide (0<=n/\n<=9999)
def AJh(q:Cb):Bool:=
 if q.Kind=1 then fld q.Id&&fld q.Bf&&decide (-1<=q.Ci/\q.Ci<=9999)&&fld q.BW&&fld q.DG
 else if q.Kind=2\/q.Kind=4\/q.Kind=5\/q.Kind=7 then fld q.Id&&(q.Bf==0&&(q.Ci==0&&(q.BW==0&&q.DG==0)))
 else if q.Kind=3 then fld q.Bf&&fld q.BW&&(q.Id==0&&(q.Ci==0&&q.DG==0))
 else if q.Kind=6 then q.Id==0&&(q.Bf==0&&(q.Ci==0&&(q.BW==0&&q.DG==0)))
 else false
def AJF(q:Cb):List Int:=
 if q.Kind=1 then [q.Kind,q.Id,q.Bf,q.Ci+1,q.BW,q.DG]
 else if q.Kind=3 then [q.Kind,q.Bf,q.BW]
 else if q.Kind=6 then [q.Kind]
 else [q.Kind,q.Id]
def AMj(q:Cb):List UInt8:=if AJh q then pL (AJF q) else []
@[simp] theorem ALI(n:Int):My n=some (fld n):=by unfold My fld;simp
@[simp] theorem AKb(n:Int):M0 n=some (fld n):=by unfold M0 fld;simp
noncomputable def ALx(s:List UInt8):Cb×Bool:=open Classical in if h:∃q,AJh q=true/\AMj q=s then (h.choose,true) else (⟨0,0,0,0,0,0⟩,false)
theorem wV{γ:Type}(a b:List UInt8)(x y:AA γ):br (a != b) x y=if a=b then y else x:=by
 unfold br;by_cases h:a=b
 .simp[h]
 .rw[if_neg h,if_pos (by simpa using h)]
@[simp] theorem AKU(q:Cb):aJ q q=some true:=by
 unfold aJ;simp[GM]
def SF(v:Nat):Nat:=if v % 2=1 then (v / 2) ^^^ 3988292384 else v / 2
def QF:Nat->Nat->Nat|0,v=>v|k+1,v=>QF k (SF v)
def OO:Nat->List UInt8->Nat|v,[]=>v|v,x::l=>OO (QF 8 (v ^^^ x.toNat)) l
def Hv(s:List UInt8):Nat:=OO 4294967295 s ^^^ 4294967295
theorem aA{v:Nat}(h:v<2 ^ 32):SF v<2 ^ 32:=by
 unfold SF;split
 .exact Cz (by omega) (by omega)
 .omega
theorem PH:∀k {v:Nat},v<2 ^ 32->QF k v<2 ^ 32|0,_,h=>h|k+1,_,h=>PH k (aA h)
theorem PI:∀(l:List UInt8) {v:Nat},v<2 ^ 32->OO v l<2 ^ 32| [],_,h=>h|x::l,v,h=>PI l (PH 8 (Cz h (by have:=x.toNat_lt;omega)))
theorem MG{a b:Nat}(ha:a<2 ^ 63)(hb:b<2 ^ 63):UJ (a:Int) (b:Int)=((a ^^^ b:Nat):Int):=by
 unfold UJ;rw[BitVec.toNat_xor,Lo ha,Lo hb];have:a ^^^ b<2 ^ 63:=Cz ha hb;rw[R4 (by omega) (by omega)]
theorem ADQ{a b:Nat}(ha:a<2 ^ 63)(hb:b<2 ^ 63):AJw (a:Int) (b:Int)=((a &&& b:Nat):Int):=by
 grind[Lo,Nat.and_le_left,R4]
theorem AL0(a:Nat):DK (a:Int) 1=((a / 2:Nat):Int):=by
 grind[IntKind.bits]
theorem Uy{γ:Type}{F:(Int×Int->AA γ)->Int×Int->AA γ}{G:Int->AA γ}
 (hF:∀L (v k:Nat),v<2 ^ 32->k<=8->F L ((v:Int),(k:Int))=if k<8 then L (((SF v:Nat):Int),((k+1:Nat):Int)) else G (v:Int)) :
 ∀(m k v n:Nat),k+m=8->m<n->v<2 ^ 32->Aw F n ((v:Int),(k:Int))=G ((QF m v:Nat):Int)
 |0,k,v,0,_,h,_=>by omega|0,k,v,n+1,hk,_,hv=>by rw[DF,hF _ _ _ hv (by omega),if_neg (by omega)];rfl|m+1,k,v,0,_,h,_=>by omega|m+1,k,v,n+1,hk,h,hv=>by
  rw[DF,hF _ _ _ hv (by omega),if_pos (by omega),Uy hF m (k+1) _ n (by omega) (by omega) (aA hv)];rfl
theorem Ux{s:List UInt8}{γ:Type}{F:(Int×Int->AA γ)->Int×Int->AA γ}{G:Int->AA γ}(hs:s.length<2 ^ 62)
 (hF:∀L (v i:Nat),v<2 ^ 32->i<=s.length->F L ((v:Int),(i:Int))=match s[i]? with|none=>G (v:Int)|some x=>L (((QF 8 (v ^^^ x.toNat):Nat):Int),((i+1:Nat):Int))) :
 ∀(m i v n:Nat),i+m=s.length->m<n->v<2 ^ 32->Aw F n ((v:Int),(i:Int))=G ((OO v (s.drop i):Nat):Int)
 |0,i,v,0,_,h,_=>by omega|0,i,v,n+1,hi,_,hv=>by
  rw[DF,hF _ _ _ hv (by omega),Cd (by omega),A1 (by omega)];rfl
 |m+1,i,v,0,_,h,_=>by omega|m+1,i,v,n+1,hi,h,hv=>by
  have hlt:i<s.length:=by omega
  rw[DF,hF _ _ _ hv (by omega),Ad hlt];dsimp only;rw[Ux hs hF m (i+1) _ n (by omega) (by omega) (PH 8 (Cz hv (by have:=s[i].toNat_lt;omega))),FH hlt];rfl
theorem pM{s:List UInt8}(hs:s.length<2 ^ 62):lL s=some ((Hv s:Nat):Int):=by
 unfold lL;have:=Ux (F:=WJ s) (G:=fun v=>some (UJ v 4294967295)) hs ?_ s.length 0 4294967295 big (by omega) (HQ _ (by omega)) (by omega)
 .refine Eq.trans this ?_;have e:=MG (a:=OO 4294967295 s) (b:=4294967295) (by have:=PI s (v:=4294967295) (by omega);omega) (by omega);show some (UJ _ ((4294967295:Nat):Int))=_;rw[CH,e];rfl
 .intro L v i hv hi;unfold WJ lN;simp only[BD,AS,Fg];by_cases h:i<s.length
  .rw[if_pos (by omega),Ad h,AE];dsimp only;have hx:=s[i].toNat_lt;rw[Ao (by omega) (by omega),MG (by omega) (by omega)];have:=Uy (F:=WK L (i:Int)) (G:=fun v=>L (v,((i+1:Nat):Int))) ?_ 8 0 (v ^^^ s[i].toNat) big (by omega) (HQ _ (by omega)) (Cz hv (by omega))
   .exact this
   .intro L5 v k hv hk;unfold WK WI lM;simp only[BD,AS];by_cases h8:k<8
    .rw[if_pos (by omega),if_pos h8];have e1:Int.tmod (v:Int) 2=((v % 2:Nat):Int):=by rw[C8 (by omega)];omega
     have e2:Int.tdiv (v:Int) 2=((v / 2:Nat):Int):=by rw[E6 (by omega)];omega
     rw[e1,e2,Ao (by omega) (by omega),Ao (n:=(k:Int)+1) (by omega) (by omega),GM,show (3988292384:Int)=((3988292384:Nat):Int) from rfl,MG (by omega) (by omega)];unfold SF;by_cases ho:v % 2=1
     .rw[if_pos (by rw[ho];rfl),if_pos ho];rfl
     .rw[if_neg (by rw[beq_iff_eq];omega),if_neg ho];rfl
    .rw[if_neg (by omega),if_neg h8,Ao (by omega) (by omega)];rfl
  .rw[if_neg (by omega),Cd (by omega)]
theorem nc{s:List UInt8}(hs:s.length<2 ^ 62):lV s=some ((Hv s:Nat):Int):=by
 unfold lV;have:=Ux (F:=WS s) (G:=fun v=>some (UJ v 4294967295)) hs ?_ s.length 0 4294967295 big (by omega) (HQ _ (by omega)) (by omega)
 .refine Eq.trans this ?_;have e:=MG (a:=OO 4294967295 s) (b:=4294967295) (by have:=PI s (v:=4294967295) (by omega);omega) (by omega);show some (UJ _ ((4294967295:Nat):Int))=_;rw[CH,e];rfl
 .intro L v i hv hi;unfold WS lY;simp only[BD,AS,Fg];by_cases h:i<s.length
  .rw[if_pos (by omega),Ad h,AE];dsimp only;have hx:=s[i].toNat_lt;rw[Ao (by omega) (by omega),MG (by omega) (by omega)];have:=Uy (F:=WT L (i:Int)) (G:=fun v=>L (v,((i+1:Nat):Int))) ?_ 8 0 (v ^^^ s[i].toNat) big (by omega) (HQ _ (by omega)) (Cz hv (by omega))
   .exact this
   .intro L5 v k hv hk;unfold WT WR lW;simp only[BD,AS];by_cases h8:k<8
    .rw[if_pos (by omega),if_pos h8];have e1:AJw (v:Int) 1=((v % 2:Nat):Int):=by
      rw[show (1:Int)=((1:Nat):Int) from rfl,ADQ (by omega) (by omega),Nat.and_one_is_mod]
     rw[e1,AL0,Ao (n:=(k:Int)+1) (by omega) (by omega),GM,show (3988292384:Int)=((3988292384:Nat):Int) from rfl,MG (by omega) (by omega)];unfold SF;by_cases ho:v % 2=1
     .rw[if_pos (by rw[ho];rfl),if_pos ho];rfl
     .rw[if_neg (by rw[beq_iff_eq];omega),if_neg ho];rfl
    .rw[if_neg (by omega),if_neg h8,Ao (by omega) (by omega)];rfl
  .rw[if_neg (by omega),Cd (by omega)]
def four(c:Int):List UInt8:=[toB (DK c 24),toB (DK c 16),toB (DK c 8),toB c]
theorem GQ(c:Int):(four c).length=4:=rfl
def MT(q:Int)(b:List UInt8):Prop:=(1<=q/\q<=1000000)/\(1<=b.length/\b.length<=60)
instance (q:Int) (b:List UInt8):Decidable (MT q b):=by unfold MT;infer_instance
def frT(q:Int)(b:List UInt8):List UInt8:=four ((Hv (pN q++b):Nat):Int)++(pN q++b)
def frB(q:Int)(b:List UInt8):List UInt8:=if MT q b then pN ((frT q b).length:Int)++frT q b else []
theorem Kj{q:Int}{b:List UInt8}(h:MT q b):6<=(frT q b).length/\(frT q b).length<=69:=by
 have h1:=Ml q;have h2:0<(pN q).length:=by unfold pN;rw[if_pos (by have:=h.1;omega)];exact GJ _
 have:=h.2;simp only[frT,AO,GQ];omega
theorem UW{q:Int}{b:List UInt8}(h:MT q b):7<=(frB q b).length/\(frB q b).length<=74:=by
 have:=Kj h;have h1:=Ml ((frT q b).length:Int);have h2:0<(pN ((frT q b).length:Int)).length:=by unfold pN;rw[if_pos (by omega)];exact GJ _
 unfold frB;rw[if_pos h,AO];omega
theorem AED{q:Int}{b:List UInt8}(h:frB q b≠[]):MT q b:=by
 grind[frB]
theorem Rr(q:Int)(b:List UInt8):yr q b=some (frB q b):=by
 unfold yr Wr;simp only[fb,AE,AS,BB,BL];by_cases h1:1<=q/\q<=1000000
 .rw[decide_eq_true h1,BL];by_cases h2:(1:Int)<=b.length/\(b.length:Int)<=60
  .have hok:MT q b:=⟨h1,by omega⟩;have hq:=Ml q;rw[decide_eq_true h2,BL,OI,AE,CG (by unfold LA;omega),pM (by rw[AO];omega),AE];unfold lO;rw[AE,CG (by simp only[AO,AM,AQ];unfold LA;omega),OI,AE];have e:[toB (DK ((Hv (pN q++b):Nat):Int) 24),toB (DK ((Hv (pN q++b):Nat):Int) 16),toB (DK ((Hv (pN q++b):Nat):Int) 8),toB ((Hv (pN q++b):Nat):Int)]++(pN q++b)=frT q b:=rfl;rw[e];have:=Ml ((frT q b).length:Int);have:=Kj hok;rw[CG (by unfold LA;omega)];unfold frB;rw[if_pos hok]
  .rw[decide_eq_false h2,BN];unfold frB;rw[if_neg (fun h=>h2 ⟨by have:=h.2;omega,by have:=h.2;omega⟩)]
 .rw[decide_eq_false h1,BN];unfold frB;rw[if_neg (fun h=>h1 h.1)]
theorem RM(q:Int)(b:List UInt8):yw q b=some (frB q b):=by
 unfold yw Wu;simp only[Om,AE,AS,BB,BL];by_cases h1:1<=q/\q<=1000000
 .rw[decide_eq_true h1,BL];by_cases h2:(1:Int)<=b.length/\(b.length:Int)<=60
  .have hok:MT q b:=⟨h1,by omega⟩;have hq:=Ml q;rw[decide_eq_true h2,BL,Hm,AE,CG (by unfold lim;omega),nc (by rw[AO];omega),AE];rw[CG (by simp only[AO,AM,AQ];unfold lim;omega),Hm,AE];have e:[toB (DK ((Hv (pN q++b):Nat):Int) 24),toB (DK ((Hv (pN q++b):Nat):Int) 16),toB (DK ((Hv (pN q++b):Nat):Int) 8),toB ((Hv (pN q++b):Nat):Int)]++(pN q++b)=frT q b:=rfl;rw[e];have:=Ml ((frT q b).length:Int);have:=Kj hok;rw[CG (by unfold LA;omega)];unfold frB;rw[if_pos hok]
  .rw[decide_eq_false h2,BN];unfold frB;rw[if_neg (fun h=>h2 ⟨by have:=h.2;omega,by have:=h.2;omega⟩)]
 .rw[decide_eq_false h1,BN];unfold frB;rw[if_neg (fun h=>h1 h.1)]
end Lv.P
namespace Lv.P
open Lv Go
theorem GX{α:Type}{l:List α}{i:Int}(h0:0<=i)(h1:i<l.length):∃x,at? l i=some x:=by
 obtain⟨n,rfl⟩:=A2 h0;exact⟨_,BK (by omega)⟩
theorem RF{x:Int}(h0:0<=x)(h1:x<1152921504606846976):w64 (DK (IntKind.u64.wrap (w64 x)) 1)=x / 2:=by
 obtain⟨n,rfl⟩:=A2 h0
 grind[Ao,IntKind.wrap,IntKind.signed,IntKind.bits,AL0]
def Ln{α:Type}(n:Nat)(x:AA (List α)):Prop:=∃r,x=some r/\r.length=n
theorem HP(k:Nat)(h:k<2 ^ 64):k<big:=HQ k h
theorem AJd{α:Type}{cmp:α->α->AA Int}(hcmp:∀x y,∃c,cmp x y=some c){l:List α}{a b:Int}(h0:0<=a)(ha:a<=l.length)(hb:b<=l.length)(hl:l.length<1099511627776):Ln l.length (CY cmp l a b):=by
 unfold CY;rw[Ao (by omega) (by omega)];refine IX (fun x=>x.1.length=l.length/\a+1<=x.2/\x.2<=2*1099511627776) (fun x=>(b-x.2).toNat) (fun r:List α=>r.length=l.length) ?_ big (l,a+1) ⟨rfl,by dsimp only;omega,by dsimp only;omega⟩ (HP _ (by dsimp only;omega));rintro L ⟨v,i⟩ ⟨hv,hi,hi2⟩ ih;dsimp only at hv hi hi2 ih;unfold Cv;dsimp only;rw[BD];split
 .rename_i hib;refine IX (fun x=>x.1.length=l.length/\a<=x.2/\x.2<=i) (fun x=>(x.2-a).toNat) (fun r:List α=>r.length=l.length) ?_ big (v,i) ⟨hv,by dsimp only;omega,by dsimp only;omega⟩ (HP _ (by dsimp only;omega));rintro L' ⟨u,j⟩ ⟨hu,hj,hj2⟩ ih';dsimp only at hu hj hj2 ih';have out:∀(u:List α),u.length=l.length->∃r,DH cmp L i u=some r/\r.length=l.length:=by
   intro u hu;unfold DH;rw[Ao (by omega) (by omega)];exact ih (u,i+1) ⟨hu,by dsimp only;omega,by dsimp only;omega⟩ (by dsimp only;omega)
  unfold Cw;dsimp only;rw[BD];split
  .rename_i hja;have e1:w64 (j-1)=j-1:=Ao (by omega) (by omega);obtain⟨x1,q1⟩:=GX (l:=u) (i:=j) (by omega) (by omega);obtain⟨x2,q2⟩:=GX (l:=u) (i:=j-1) (by omega) (by omega);obtain⟨c,hc⟩:=hcmp x1 x2;obtain⟨x3,q3⟩:=GX (l:=List.set u j.toNat x2) (i:=j-1) (by omega) (by rw[Cf];omega);simp only[e1,q1,q2,AE,hc,AS];unfold Cu;rw[BD];split
   .simp only[e1,q1,q2,q3,AE];exact ih' (_,j-1) ⟨by simp only[Cf];exact hu,by dsimp only;omega,by dsimp only;omega⟩ (by dsimp only;omega)
   .rw[AS];exact out u hu
  .rw[AS];unfold Cu;rw[BN,AS];exact out u hu
 .exact⟨v,rfl,hv⟩
theorem vj{α:Type}{cmp:α->α->AA Int}{l:List α}{a b n:Int}(h0:0<=a)(h1:0<=b)(ha:a+n<=l.length)(hb:b+n<=l.length)(hl:l.length<1099511627776):Ln l.length (DQ cmp l a b n):=by
 unfold DQ;refine IX (fun x=>x.1.length=l.length/\0<=x.2) (fun x=>(n-x.2).toNat) (fun r:List α=>r.length=l.length) ?_ big (l,0) ⟨rfl,by dsimp only;omega⟩ (HP _ (by dsimp only;omega));rintro L ⟨v,i⟩ ⟨hv,hi⟩ ih;dsimp only at hv hi ih;unfold Hy;dsimp only;rw[BD];split
 .rename_i hin;have e1:w64 (a+i)=a+i:=Ao (by omega) (by omega);have e2:w64 (b+i)=b+i:=Ao (by omega) (by omega);have e3:w64 (i+1)=i+1:=Ao (by omega) (by omega);obtain⟨x1,q1⟩:=GX (l:=v) (i:=a+i) (by omega) (by omega);obtain⟨x2,q2⟩:=GX (l:=v) (i:=b+i) (by omega) (by omega);obtain⟨x3,q3⟩:=GX (l:=List.set v (a+i).toNat x2) (i:=b+i) (by omega) (by rw[Cf];omega);simp only[e1,e2,e3,q1,q2,q3,AE];exact ih (_,i+1) ⟨by simp only[Cf];exact hv,by dsimp only;omega⟩ (by dsimp only;omega)
 .exact⟨v,rfl,hv⟩
theorem ALz{α:Type}{cmp:α->α->AA Int}{l:List α}{a m b:Int}(h0:0<=a)(h1:a<m)(h2:m<b)(h3:b<=l.length)(hl:l.length<1099511627776):Ln l.length (Fs cmp l a m b):=by
 unfold Fs;rw[Ao (n:=m-a) (by omega) (by omega),Ao (n:=b-m) (by omega) (by omega)];refine IX (fun x=>x.1.length=l.length/\0<x.2.1/\x.2.1<=m-a/\0<x.2.2/\x.2.2<=b-m) (fun x=>(x.2.1+x.2.2).toNat) (fun r:List α=>r.length=l.length) ?_ big (l,m-a,b-m) ⟨rfl,by dsimp only;omega,by dsimp only;omega,by dsimp only;omega,by dsimp only;omega⟩ (HP _ (by dsimp only;omega));rintro L ⟨v,i,j⟩ ⟨hv,hi,hi2,hj,hj2⟩ ih;dsimp only at hv hi hi2 hj hj2 ih;unfold JV;dsimp only;have e1:w64 (m-i)=m-i:=Ao (by omega) (by omega);have e2:w64 (w64 (m+j)-i)=m+j-i:=by rw[Ao (n:=m+j) (by omega) (by omega)];exact Ao (by omega) (by omega)
 by_cases hij:i=j
 .subst hij;rw[show (i != i)=false from by simp,BN,AS];unfold JU;obtain⟨r,hr,hr2⟩:=vj (cmp:=cmp) (l:=v) (a:=m-i) (b:=m) (n:=i) (by omega) (by omega) (by omega) (by omega) (by omega);dsimp only;rw[e1,hr,AE];exact⟨r,rfl,hr2.trans hv⟩
 .rw[show (i != j)=true from by simp[hij],BL,BD];split
  .obtain⟨r,hr,hr2⟩:=vj (cmp:=cmp) (l:=v) (a:=m-i) (b:=m) (n:=j) (by omega) (by omega) (by omega) (by omega) (by omega);rw[e1,hr,AE,Ao (n:=i-j) (by omega) (by omega)];exact ih (r,i-j,j) ⟨hr2.trans hv,by dsimp only;omega,by dsimp only;omega,by dsimp only;omega,by dsimp only;omega⟩ (by dsimp only;omega)
  .obtain⟨r,hr,hr2⟩:=vj (cmp:=cmp) (l:=v) (a:=m-i) (b:=m+j-i) (n:=i) (by omega) (by omega) (by omega) (by omega) (by omega);rw[e1,e2,hr,AE,Ao (n:=j-i) (by omega) (by omega)];exact ih (r,i,j-i) ⟨hr2.trans hv,by dsimp only;omega,by dsimp only;omega,by dsimp only;omega,by dsimp only;omega⟩ (by dsimp only;omega)
def iq{α:Type}(k:Nat)(r:List α->Int->Int->Int->AA (List α)):Prop:=
 ∀(l:List α) (a m b:Int),0<=a->a<m->m<b->b<=l.length->l.length<1099511627776->b-a<=2 ^ k->Ln l.length (r l a m b)
theorem AC0{α:Type}{cmp:α->α->AA Int}{k:Nat}{r:List α->Int->Int->Int->AA (List α)}(hr:iq k r){l:List α}{a m b s:Int}(h0:0<=a)(h1:a<m)(h2:m<b)(h3:b<=l.length)(hl:l.length<1099511627776)(hk:b-a<=2 ^ (k+1))
 (g1:a<=s) (g2:s<=(a+b) / 2) (g3:s<=m) (g4:(a+b) / 2+m-b<=s):Ln l.length (F9 cmp r l a m b s):=by
 have e0:w64 (DK (IntKind.u64.wrap (w64 (a+b))) 1)=(a+b) / 2:=RF (by omega) (by omega);have e1:w64 (w64 ((a+b) / 2+m)-s)=(a+b) / 2+m-s:=by rw[Ao (n:=(a+b) / 2+m) (by omega) (by omega)];exact Ao (by omega) (by omega)
 have hk2:(2:Int) ^ (k+1)=2*2 ^ k:=by rw[Int.pow_succ];omega
 have hj16:∀v:List α,v.length=l.length->Ln l.length (Eh cmp r a m b s v):=by
  intro v hv;unfold Eh GC;rw[e0,e1,BD];split
  .rw[AS,BD];split
   .obtain⟨x,hx,hx2⟩:Ln v.length (r v ((a+b) / 2) ((a+b) / 2+m-s) b):=hr v ((a+b) / 2) ((a+b) / 2+m-s) b (by omega) (by omega) (by omega) (by omega) (by omega) (by omega);rw[hx,AE];exact⟨x,rfl,hx2.trans hv⟩
   .exact⟨v,rfl,hv⟩
  .rw[AS,BN];exact⟨v,rfl,hv⟩
 have hj14:∀v:List α,v.length=l.length->Ln l.length (Eg cmp r a m b s v):=by
  intro v hv;unfold Eg GB;rw[e0,BD];split
  .rw[AS,BD];split
   .obtain⟨x,hx,hx2⟩:Ln v.length (r v a s ((a+b) / 2)):=hr v a s ((a+b) / 2) (by omega) (by omega) (by omega) (by omega) (by omega) (by omega);rw[hx,AE,AS];exact hj16 x (hx2.trans hv)
   .rw[AS];exact hj16 v hv
  .rw[AS,BN,AS];exact hj16 v hv
 unfold F9 GA;rw[e0,e1,BD];split
 .rw[AS,BD];split
  .obtain⟨x,hx,hx2⟩:=ALz (cmp:=cmp) (l:=l) (a:=s) (m:=m) (b:=(a+b) / 2+m-s) (by omega) (by omega) (by omega) (by omega) (by omega);rw[hx,AE,AS];exact hj14 x hx2
  .rw[AS];exact hj14 l rfl
 grind[AS,BN]
theorem AAN{α:Type}{cmp:α->α->AA Int}(hcmp:∀x y,∃c,cmp x y=some c){k:Nat}{r:List α->Int->Int->Int->AA (List α)}(hr:iq k r):iq (k+1) (EK cmp r):=by
 intro l a m b h0 h1 h2 h3 hl hk;show Ln l.length (EK cmp r l a m b);have e0:w64 (DK (IntKind.u64.wrap (w64 (a+b))) 1)=(a+b) / 2:=RF (by omega) (by omega);unfold EK;rw[Ao (n:=m-a) (by omega) (by omega)];by_cases c1:m-a=1
 .rw[show (m-a==1)=true from by simp[c1],BL];refine IX (fun x=>m<=x.1/\x.1<=x.2/\x.2<=b) (fun x=>(x.2-x.1).toNat) (fun r:List α=>r.length=l.length) ?_ big (m,b) ⟨by dsimp only;omega,by dsimp only;omega,by dsimp only;omega⟩ (HP _ (by dsimp only;omega));rintro L ⟨i,j⟩ ⟨hi,hij,hj⟩ ih;dsimp only at hi hij hj ih;unfold IH;dsimp only;rw[BD];split
  .have eh:w64 (DK (IntKind.u64.wrap (w64 (i+j))) 1)=(i+j) / 2:=RF (by omega) (by omega);have eh1:w64 ((i+j) / 2+1)=(i+j) / 2+1:=Ao (by omega) (by omega);obtain⟨x1,q1⟩:=GX (l:=l) (i:=(i+j) / 2) (by omega) (by omega);obtain⟨x2,q2⟩:=GX (l:=l) (i:=a) (by omega) (by omega);obtain⟨c,hc⟩:=hcmp x1 x2;simp only[eh,eh1,q1,q2,AE,hc];rw[BD];split
   .exact ih ((i+j) / 2+1,j) ⟨by dsimp only;omega,by dsimp only;omega,by dsimp only;omega⟩ (by dsimp only;omega)
   .exact ih (i,(i+j) / 2) ⟨by dsimp only;omega,by dsimp only;omega,by dsimp only;omega⟩ (by dsimp only;omega)
  .rw[AS];unfold ID;refine IX (fun x=>x.1.length=l.length/\a<=x.2) (fun x=>(i-1-x.2).toNat) (fun r:List α=>r.length=l.length) ?_ big (l,a) ⟨rfl,by dsimp only;omega⟩ (HP _ (by dsimp only;omega));rintro L' ⟨u,q⟩ ⟨hu,hq⟩ ih';dsimp only at hu hq ih';unfold II E2;dsimp only;rw[Ao (n:=i-1) (by omega) (by omega),BD];split
   .have e1:w64 (q+1)=q+1:=Ao (by omega) (by omega);obtain⟨x1,q1⟩:=GX (l:=u) (i:=q+1) (by omega) (by omega);obtain⟨x2,q2⟩:=GX (l:=u) (i:=q) (by omega) (by omega);obtain⟨x3,q3⟩:=GX (l:=List.set u q.toNat x1) (i:=q+1) (by omega) (by rw[Cf];omega);simp only[e1,q1,q2,q3,AE];exact ih' (_,q+1) ⟨by simp only[Cf];exact hu,by dsimp only;omega⟩ (by dsimp only;omega)
   .rw[AS];exact⟨u,rfl,hu⟩
 .rw[show (m-a==1)=false from by simp[c1],BN,AS];unfold IE;rw[Ao (n:=b-m) (by omega) (by omega)];by_cases c2:b-m=1
  .rw[show (b-m==1)=true from by simp[c2],BL];refine IX (fun x=>a<=x.1/\x.1<=x.2/\x.2<=m) (fun x=>(x.2-x.1).toNat) (fun r:List α=>r.length=l.length) ?_ big (a,m) ⟨by dsimp only;omega,by dsimp only;omega,by dsimp only;omega⟩ (HP _ (by dsimp only;omega));rintro L ⟨i,j⟩ ⟨hi,hij,hj⟩ ih;dsimp only at hi hij hj ih;unfold IJ;dsimp only;rw[BD];split
   .have eh:w64 (DK (IntKind.u64.wrap (w64 (i+j))) 1)=(i+j) / 2:=RF (by omega) (by omega);have eh1:w64 ((i+j) / 2+1)=(i+j) / 2+1:=Ao (by omega) (by omega);obtain⟨x1,q1⟩:=GX (l:=l) (i:=(i+j) / 2) (by omega) (by omega);obtain⟨x2,q2⟩:=GX (l:=l) (i:=m) (by omega) (by omega);obtain⟨c,hc⟩:=hcmp x2 x1;simp only[eh,eh1,q1,q2,AE,hc];cases hcc:decide (c<0)
    .rw[show (!false)=true from rfl,BL];exact ih ((i+j) / 2+1,j) ⟨by dsimp only;omega,by dsimp only;omega,by dsimp only;omega⟩ (by dsimp only;omega)
    .rw[show (!true)=false from rfl,BN];exact ih (i,(i+j) / 2) ⟨by dsimp only;omega,by dsimp only;omega,by dsimp only;omega⟩ (by dsimp only;omega)
   .rw[AS];unfold IF;refine IX (fun x=>x.1.length=l.length/\x.2<=m/\i<=x.2) (fun x=>(x.2-i).toNat) (fun r:List α=>r.length=l.length) ?_ big (l,m) ⟨rfl,by dsimp only;omega,by dsimp only;omega⟩ (HP _ (by dsimp only;omega));rintro L' ⟨u,q⟩ ⟨hu,hq,hq2⟩ ih';dsimp only at hu hq hq2 ih';unfold IK E2;dsimp only;rw[BD];split
    .have e1:w64 (q-1)=q-1:=Ao (by omega) (by omega);obtain⟨x1,q1⟩:=GX (l:=u) (i:=q-1) (by omega) (by omega);obtain⟨x2,q2⟩:=GX (l:=u) (i:=q) (by omega) (by omega);obtain⟨x3,q3⟩:=GX (l:=List.set u q.toNat x1) (i:=q-1) (by omega) (by rw[Cf];omega);simp only[e1,q1,q2,q3,AE];exact ih' (_,q-1) ⟨by simp only[Cf];exact hu,by dsimp only;omega,by dsimp only;omega⟩ (by dsimp only;omega)
    .rw[AS];exact⟨u,rfl,hu⟩
  .rw[show (b-m==1)=false from by simp[c2],BN,AS];have key:∀s t:Int,a<=s->s<=t->t<=(a+b) / 2->t<=m->(a+b) / 2+m-b<=s->Ln l.length (Ef cmp r l a m b (s,t)):=by
    intro s t p1 p2 p3 p4 p5;unfold Ef;refine IX (fun x=>a<=x.1/\x.1<=x.2/\x.2<=(a+b) / 2/\x.2<=m/\(a+b) / 2+m-b<=x.1) (fun x=>(x.2-x.1).toNat) (fun r:List α=>r.length=l.length) ?_ big (s,t) ⟨p1,p2,p3,p4,p5⟩ (HP _ (by dsimp only;omega));rintro L ⟨i,j⟩ ⟨g1,g2,g3,g4,g5⟩ ih;dsimp only at g1 g2 g3 g4 g5 ih;unfold Hz;dsimp only;rw[BD];split
    .have eh:w64 (DK (IntKind.u64.wrap (w64 (i+j))) 1)=(i+j) / 2:=RF (by omega) (by omega);have eh1:w64 ((i+j) / 2+1)=(i+j) / 2+1:=Ao (by omega) (by omega);have ep:w64 (w64 (w64 ((a+b) / 2+m)-1)-(i+j) / 2)=(a+b) / 2+m-1-(i+j) / 2:=by
      rw[Ao (n:=(a+b) / 2+m) (by omega) (by omega),Ao (n:=(a+b) / 2+m-1) (by omega) (by omega)];exact Ao (by omega) (by omega)
     obtain⟨x1,q1⟩:=GX (l:=l) (i:=(i+j) / 2) (by omega) (by omega);obtain⟨x2,q2⟩:=GX (l:=l) (i:=(a+b) / 2+m-1-(i+j) / 2) (by omega) (by omega);obtain⟨c,hc⟩:=hcmp x2 x1;simp only[e0,eh,eh1,ep,q1,q2,AE,hc];cases hcc:decide (c<0)
     .rw[show (!false)=true from rfl,BL];exact ih ((i+j) / 2+1,j) ⟨by dsimp only;omega,by dsimp only;omega,by dsimp only;omega,by dsimp only;omega,by dsimp only;omega⟩ (by dsimp only;omega)
     .rw[show (!true)=false from rfl,BN];exact ih (i,(i+j) / 2) ⟨by dsimp only;omega,by dsimp only;omega,by dsimp only;omega,by dsimp only;omega,by dsimp only;omega⟩ (by dsimp only;omega)
    .rw[AS];exact AC0 hr h0 h1 h2 h3 hl hk g1 (by omega) (by omega) g5
   unfold IG;rw[e0,BD];split
   .rw[AS,Ao (n:=(a+b) / 2+m) (by omega) (by omega),Ao (n:=(a+b) / 2+m-b) (by omega) (by omega)];exact key _ _ (by omega) (by omega) (by omega) (by omega) (by omega)
   .rw[AS];exact key _ _ (by omega) (by omega) (by omega) (by omega) (by omega)
theorem pR{α:Type}{cmp:α->α->AA Int}(hcmp:∀x y,∃c,cmp x y=some c){mrg:List α->Int->Int->Int->AA (List α)}(hm:∀(l:List α) (a m b:Int),0<=a->a<m->m<b->b<=l.length->l.length<=40->Ln l.length (mrg l a m b)){l:List α}(hl:l.length<=40):Ln l.length (Ek cmp mrg l (l.length:Int)):=by
 unfold Ek;have hl3:∀v:List α,v.length=l.length->Ln l.length (Aw (EY cmp mrg (l.length:Int)) big (v,20)):=by
  intro v hv;refine IX (fun x=>x.1.length=l.length/\(x.2=20\/x.2=40)) (fun x=>(40-x.2).toNat) (fun r:List α=>r.length=l.length) ?_ big (v,20) ⟨hv,.inl rfl⟩ (HP _ (by dsimp only;omega));rintro L ⟨u,s⟩ ⟨hu,hs⟩ ih;dsimp only at hu hs ih;unfold EY;dsimp only;rw[BD];split
  .have hs20:s=20:=by omega
   subst hs20;have out:∀w:List α,w.length=l.length->Ln l.length (Fj cmp mrg L 20 w):=by
    intro w hw;unfold Fj;rw[Ao (by omega) (by omega)];exact ih (w,20*2) ⟨hw,.inr rfl⟩ (by dsimp only;omega)
   rw[Ao (n:=2*20) (by omega) (by omega)];refine IX (fun x=>x.1.length=l.length/\x.2.2=x.2.1+40/\(x.2.1=0\/x.2.1=40)) (fun x=>(40-x.2.1).toNat) (fun r:List α=>r.length=l.length) ?_ big (u,0,2*20) ⟨hu,by dsimp only;omega,.inl rfl⟩ (HP _ (by dsimp only;omega));rintro L' ⟨w,a,b⟩ ⟨hw,hab,ha⟩ ih';dsimp only at hw hab ha ih';unfold JX;dsimp only;rw[BD];split
   .obtain⟨x,hx,hx2⟩:=hm w a (a+20) b (by omega) (by omega) (by omega) (by omega) (by omega);rw[Ao (n:=a+20) (by omega) (by omega),hx,AE,Ao (n:=2*20) (by omega) (by omega),Ao (n:=b+2*20) (by omega) (by omega)];exact ih' (x,b,b+2*20) ⟨hx2.trans hw,by dsimp only;omega,by dsimp only;omega⟩ (by dsimp only;omega)
   .rw[AS];unfold JW;dsimp only;rw[Ao (n:=a+20) (by omega) (by omega),BD];split
    .obtain⟨x,hx,hx2⟩:=hm w a (a+20) (l.length:Int) (by omega) (by omega) (by omega) (by omega) (by omega);rw[hx,AE,AS];exact out x (hx2.trans hw)
    .rw[AS];exact out w hw
  .exact⟨u,rfl,hu⟩
 have key:Ln l.length (Aw (EX cmp mrg (l.length:Int)) big (l,0,20)):=by
  refine IX (fun x=>x.1.length=l.length/\0<=x.2.1/\x.2.1<=(l.length:Int)/\x.2.2=x.2.1+20) (fun x=>(60-x.2.1).toNat) (fun r:List α=>r.length=l.length) ?_ big (l,0,20) ⟨rfl,by dsimp only;omega,by dsimp only;omega,by dsimp only;omega⟩ (HP _ (by dsimp only;omega));rintro L ⟨u,a,b⟩ ⟨hu,ha,ha2,hab⟩ ih;dsimp only at hu ha ha2 hab ih;unfold EX;dsimp only;rw[BD];split
  .obtain⟨x,hx,hx2⟩:=AJd hcmp (l:=u) (a:=a) (b:=b) (by omega) (by omega) (by omega) (by omega);rw[hx,AE,Ao (n:=b+20) (by omega) (by omega)];exact ih (x,b,b+20) ⟨hx2.trans hu,by dsimp only;omega,by dsimp only;omega,rfl⟩ (by dsimp only;omega)
  .rw[AS];unfold Fi;dsimp only;obtain⟨x,hx,hx2⟩:=AJd hcmp (l:=u) (a:=a) (b:=(l.length:Int)) (by omega) (by omega) (by omega) (by omega);rw[hx,AE];exact hl3 x (hx2.trans hu)
 exact key
theorem cQ:∀k,iq (α:=Ac) k (fun l a m b=>(M6 k).d (l,a,m,b,(),()))
 |0=>by
  intro l a m b h0 h1 h2 h3 hl hk
  grind
 |k+1=>AAN (fun x y=>(Lh x y).imp fun _ h=>h.1) (cQ k)
theorem oA{l:List Ac}{a m b:Int}(h0:0<=a)(h1:a<m)(h2:m<b)(h3:b<=l.length)(hl:l.length<=40):Ln l.length (ADm l a m b):=
 cQ 7 l a m b h0 h1 h2 h3 (by omega) (by have:(2:Int) ^ 7=128:=rfl;omega)
theorem ZG{l:List Ac}(hl:l.length<=40):Ln l.length (aH l):=by
 unfold aH xn;obtain⟨x,hx,hx2⟩:=pR (fun x y=>(Lh x y).imp fun _ h=>h.1) (mrg:=ADm) (fun _ _ _ _=>oA) hl;rw[hx,AE];exact⟨x,rfl,hx2⟩
theorem AAM:∀k,iq (α:=Ax) k (fun l a m b=>(M5 k).d (l,a,m,b,(),()))
 |0=>by
  intro l a m b h0 h1 h2 h3 hl hk
  grind
 |k+1=>AAN (fun x y=>(Jt x y).imp fun _ h=>h.1) (AAM k)
theorem ABD{l:List Ax}{a m b:Int}(h0:0<=a)(h1:a<m)(h2:m<b)(h3:b<=l.length)(hl:l.length<=40):Ln l.length (ADi l a m b):=
 AAM 7 l a m b h0 h1 h2 h3 (by omega) (by have:(2:Int) ^ 7=128:=rfl;omega)
theorem iR{l:List Ax}(hl:l.length<=40):Ln l.length (aK l):=by
 unfold aK xc;obtain⟨x,hx,hx2⟩:=pR (fun x y=>(Jt x y).imp fun _ h=>h.1) (mrg:=ADi) (fun _ _ _ _=>ABD) hl;rw[hx,AE];exact⟨x,rfl,hx2⟩
end Lv.P
