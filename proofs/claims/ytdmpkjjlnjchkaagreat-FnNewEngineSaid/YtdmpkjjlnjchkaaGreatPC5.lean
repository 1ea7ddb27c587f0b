/- Plain laws about what the program computes. -/
import Derived.Test.YtdmpkjjlnjchkaaGreatPA5
set_option linter.unusedVariables false
set_option linter.unusedSimpArgs false
set_option linter.unusedSectionVars false
open Int renaming eq_ofNat_of_zero_le->Ab,tdiv_eq_ediv_of_nonneg->G8,tmod_eq_emod_of_nonneg->D4,toNat_natCast->Ac
open List renaming append_eq_nil_iff->IP,cons_append->Es,drop_drop->DL,drop_eq_getElem_cons->HI,drop_eq_nil_iff->GL,drop_eq_nil_of_le->BM,drop_left->EX,drop_zero->C3,flatMap_cons->Cn,getElem?_cons_zero->AP,getElem?_drop->B0,getElem?_eq_getElem->AW,getElem?_eq_none->DV,length_append->AM,length_cons->AH,length_nil->AN,length_set->BG,nil_append->CK
open Nat renaming add_assoc->Ce,div_lt_iff_lt_mul->C0,lt_or_ge->AT,mod_eq_of_lt->LD,mul_le_mul_right->Ao,pow_le_pow_right->GO,pow_succ->Hw,xor_lt_two_pow->Dr,zero_add->Av
namespace Lv.P
open Go (IntKind BinOp UnOp)
@[simp] theorem pB(a b c:Int):AUr a b c=some (decide (b<=a/\a<=c)):=by
 grind[AUr,BAF,BA,AR]
@[simp] theorem Up(a b c:Int):AQR a b c=some (decide (b<=a/\a<=c)):=by
 grind[AQR,ArI,BA,AR]
def FU(n:Nat):List UInt8:=if n<128 then [UInt8.ofNat n] else UInt8.ofNat (n % 128+128)::FU (n / 128)
decreasing_by omega
def pN(n:Int):List UInt8:=if 0<=n/\n<=2147483647 then FU n.toNat else []
theorem Rf{n:Nat}(h:n<128):FU n=[UInt8.ofNat n]:=by rw[FU,if_pos h]
theorem ar{n:Nat}(h:128<=n):FU n=UInt8.ofNat (n % 128+128)::FU (n / 128):=by rw[FU,if_neg (by omega)]
theorem Ip(n:Nat):0<(FU n).length:=by rw[FU];split<;>simp
theorem nq:∀(k n:Nat),n<128 ^ (k+1)->(FU n).length<=k+1
 |0,n,h=>by rw[Rf (by simpa using h)];simp|k+1,n,h=>by
  rcases AT n 128 with a|a
  .rw[Rf a];simp
  .rw[ar a];have:=nq k (n / 128) (by rw[C0 (by omega)];rw[Hw]at h;exact h);simp only[AH];omega
theorem LM{n:Nat}(h:n<=2147483647):(FU n).length<=5:=nq 4 n (by omega)
theorem TI(n:Int):(pN n).length<=5:=by unfold pN;split
                                       .exact LM (by omega)
                                       .simp
theorem AT4{F:(Int×List UInt8->AA (List UInt8))->Int×List UInt8->AA (List UInt8)}
 (hF:∀L n acc,F L (n,acc)=if n<128 then gd (acc.length+1<=lim) (some (acc++[toB n])) else gd (acc.length+1<=lim) (L (w64 (Int.tdiv n 128),acc++[toB (w64 (Int.tmod n 128+128))])))
 {n:Nat} (q:n<=2147483647):A4 F big ((n:Int),[])=some (FU n):=by
 have:=mJ (F:=F) (x:=((n:Int),[])) (fun x=>some (x.2++FU x.1.toNat)) (fun x=>0<=x.1/\x.1<=2147483647/\x.2.length+(FU x.1.toNat).length<=5) (fun x=>x.1.toNat) ?_ ?_ ?_
 .simpa using this
 .rintro L ⟨m,acc⟩ ⟨a,j,c⟩ hL;dsimp only at a j c hL ⊢;obtain⟨m,rfl⟩:=Ab a;rw[hF];simp only[Ac]at c hL ⊢;have hlim:acc.length+1<=lim:=by have:=Ip m;unfold lim;omega
  by_cases h:m<128
  .rw[if_pos (by omega),B9 hlim,Rf h,AUP (by omega)]
  .have e:Int.tdiv (m:Int) 128=((m / 128:Nat):Int):=by
    rw[G8 (by omega)];rfl
   have g:Int.tmod (m:Int) 128+128=((m % 128+128:Nat):Int):=by
    rw[D4 (by omega)];omega
   have y:=ar (n:=m) (by omega);rw[if_neg (by omega),B9 hlim,e,g,Ai (by omega) (by omega),Ai (by omega) (by omega),AUP (by omega)]
   grind
 .refine⟨by dsimp only;omega,by dsimp only;omega,?_⟩;have:=LM q;simpa using this
 .dsimp only;omega
@[simp] theorem Z8(n:Int):BG5 n=some (pN n):=by
 unfold BG5 pN;simp only[pB,AB,BI,BA];split
 .rename_i h;obtain⟨m,rfl⟩:=Ab h.1;refine AT4 (fun L n acc=>?_) (by omega);unfold BJN BJM;simp only[BA,AR,AH,AN,Av];by_cases h:n>127
  .grind
  .rw[if_neg h,if_pos (by omega)]
 .rfl
@[simp] theorem LJ(n:Int):Agx n=some (pN n):=by
 unfold Agx pN;simp only[Up,AB,BI,BA];split
 .rename_i h;obtain⟨m,rfl⟩:=Ab h.1;refine AT4 (fun L n acc=>?_) (by omega);unfold Avn Avm;simp only[BA,AR,AH,AN,Av];by_cases h:n>=128
  .grind
  .rw[if_neg h,if_pos (by omega)]
 .rfl
def rdN:Nat->Nat->Nat->List UInt8->AA (Nat×Nat)
 |0,_,_,_=>none|_+1,_,_,[]=>none|f+1,k,a,d::l=>
  if d.toNat<128 then (if (0<k/\d.toNat=0)\/2147483647<a+(d.toNat % 128)*2 ^ (7*k) then none else some (a+(d.toNat % 128)*2 ^ (7*k),k+1))
  else rdN f (k+1) (a+(d.toNat % 128)*2 ^ (7*k)) l
def AD4(at_:Nat):AA (Nat×Nat)->Int×Int×Bool|some (n,m)=>((n:Int),((at_+m:Nat):Int),true)|none=>(0,0,false)
def gN(b:List UInt8)(i:Int):Int×Int×Bool:=if 0<=i/\i<b.length then AD4 i.toNat (rdN 5 0 0 (b.drop i.toNat)) else (0,0,false)
theorem AMj{c s:Nat}(g:c<128)(a:s<=28):AAM (c:Int) (s:Int)=((c*2 ^ s:Nat):Int):=by
 have e:c*2 ^ s<2 ^ 35:=by
  have:2 ^ s<=2 ^ 28:=GO (by omega) a
  calc c*2 ^ s<=127*2 ^ 28:=Nat.mul_le_mul (by omega) this
   _<2 ^ 35:=by decide
 grind[IntKind.bits,bE]
theorem UN{n:Nat}(h:n<2 ^ 63):(BitVec.ofInt IntKind.i64.bits (n:Int)).toNat=n:=by
 simp only[IntKind.bits,BitVec.toNat_ofInt];omega
theorem AeK{a b:Nat}(c:a<2 ^ 63)(e:b<2 ^ 63):orI (a:Int) (b:Int)=((a |||b:Nat):Int):=by
 unfold orI;rw[BitVec.toNat_or,UN c,UN e];have:a |||b<2 ^ 63:=Nat.or_lt_two_pow c e;rw[bE (by omega) (by omega)]
theorem AgL{a c s:Nat}(e:a<2 ^ s):a |||c*2 ^ s=a+c*2 ^ s:=by
 have:=Nat.two_pow_add_eq_or_of_lt e c;rw[Nat.or_comm,Nat.mul_comm,<-this,Nat.add_comm]
theorem AMG:∀(k n:Nat),n<128 ^ (k+1)->((FU n).length=k+1↔k=0\/128 ^ k<=n)
 |0,n,h=>by rw[Rf (by simpa using h)];simp|k+1,n,h=>by
  rcases AT n 128 with a|a
  .grind[Rf]
  .rw[ar a];have c:n / 128<128 ^ (k+1):=by rw[C0 (by omega)];rw[Hw]at h;exact h
   have:=AMG k (n / 128) c;have e:128 ^ k<=n / 128↔128 ^ (k+1)<=n:=by rw[Nat.le_div_iff_mul_le (by omega),Hw]
   grind
theorem AgP(k:Nat):(2:Nat) ^ (7*k)=128 ^ k:=by rw[Nat.pow_mul]
theorem digit{a k c:Nat}(j:k<5)(g:a<128 ^ k)(h:c<128):a+c*2 ^ (7*k)<128 ^ (k+1)/\a+c*2 ^ (7*k)<2 ^ 35:=by
 rw[AgP];have e:a+c*128 ^ k<128 ^ (k+1):=by
  have:c*128 ^ k<=127*128 ^ k:=Ao _ (by omega);rw[Hw];omega
 refine⟨e,Nat.lt_of_lt_of_le e ?_⟩
 calc 128 ^ (k+1)<=128 ^ 5:=GO (by omega) (by omega)
  _=2 ^ 35:=by decide
theorem Ui{b:List UInt8}(I:b.length<2 ^ 62){i:Nat}(hi:i<2 ^ 62):∀(f k a n:Nat),f+k=5->f<n->a<128 ^ k ->
 A4 (A2U b i) n ((a:Int),(k:Int))=some (AD4 i (rdN f k a (b.drop (i+k))))
 |0,k,a,n,Q,X,g=>by
  obtain⟨n,rfl⟩:∃m,n=m+1:=⟨n-1,by omega⟩;rw[EV];unfold A2U A2T;simp only[BA,AR];rw[if_neg (by omega)];rfl
 |f+1,k,a,n,Q,X,g=>by
  obtain⟨n,rfl⟩:∃m,n=m+1:=⟨n-1,by omega⟩;rw[EV];generalize hL:A4 (A2U b i) n=L;unfold A2U;simp only[BA,AR];rw[if_pos (by omega),if_neg (by omega)];unfold A1C BHF;simp only[BA,AR,BH,BZ,ge_iff_le,beq_iff_eq,decide_eq_true_eq];rw[Ai (n:=(b.length:Int)-k) (by omega) (by omega)];cases e:b.drop (i+k) with
  |nil=>
   have:b.length<=i+k:=GL.1 e;rw[if_pos (by omega)];rfl
  |cons d l=>
   have S:i+k<b.length:=by
    rcases AT (i+k) b.length with h|h
    .exact h
    .rw[BM h]at e;cases e
   have J:b[i+k]?=some d:=by
    have:=B0 (xs:=b) (i:=i+k) (j:=0);rw[e]at this;simpa using this.symm
   have q:b.drop (i+(k+1))=l:=by
    rw[<-Ce,<-DL,e];rfl
   rw[if_neg (by omega),Ai (n:=(i:Int)+k) (by omega) (by omega),show (i:Int)+k=((i+k:Nat):Int) from by push_cast;rfl,Fu,J,AB];have O:d.toNat<256:=d.toNat_lt;have G:w64 (7*(k:Int))=((7*k:Nat):Int):=by rw[Ai (by omega) (by omega)];push_cast;rfl
   have ed:w64 ((d.toNat:Nat):Int)=(d.toNat:Int):=Ai (by omega) (by omega);have em:Int.tmod (d.toNat:Int) 128=((d.toNat % 128:Nat):Int):=by rw[D4 (by omega)];rfl
   obtain⟨B,Y⟩:=digit (a:=a) (k:=k) (c:=d.toNat % 128) (by omega) g (by omega);have y:orI (a:Int) (AAM ((d.toNat % 128:Nat):Int) ((7*k:Nat):Int))=((a+(d.toNat % 128)*2 ^ (7*k):Nat):Int):=by
    rw[AMj (by omega) (by omega)];rw[AeK (by have:=GO (n:=128) (by omega) (show k<=5 by omega);omega) (by omega),AgL (by rw[AgP];exact g)]
   rw[G,B9 (by omega),ed,em,y];simp only[rdN];have E:w64 ((k:Int)+1)=((k+1:Nat):Int):=Ai (by omega) (by omega);by_cases H:d.toNat<128
   .grind[AD4,Prod.mk.injEq,Ai]
   .rw[if_neg (by omega),if_neg H,E,<-hL,Ui I hi f (k+1) _ n (by omega) (by omega) B,q]
theorem T9{b:List UInt8}(Q:b.length<2 ^ 62){i:Nat}(hi:i<2 ^ 62):∀(f k a n:Nat),f+k=5->f<n->a<128 ^ k ->
 A4 (Asr b i) n ((a:Int),(k:Int))=some (AD4 i (rdN f k a (b.drop (i+k))))
 |0,k,a,n,Y,hn,G=>by
  obtain⟨n,rfl⟩:∃m,n=m+1:=⟨n-1,by omega⟩;rw[EV];unfold Asr Avz BJ8;simp only[BA,AR];rw[if_neg (by omega)];rfl
 |f+1,k,a,n,Y,hn,G=>by
  obtain⟨n,rfl⟩:∃m,n=m+1:=⟨n-1,by omega⟩;rw[EV];generalize hL:A4 (Asr b i) n=L;unfold Asr;simp only[BA,AR];rw[if_pos (by omega)];unfold Avz BJ8;simp only[BA,AR,BZ,bne_iff_ne,LJ,AB,decide_eq_true_eq];rw[Ai (n:=(i:Int)+k) (by omega) (by omega),show (i:Int)+k=((i+k:Nat):Int) from by push_cast;rfl];cases e:b.drop (i+k) with
  |nil=>
   have:b.length<=i+k:=GL.1 e;rw[if_neg (by omega)];rfl
  |cons d l=>
   have hlt:i+k<b.length:=by
    rcases AT (i+k) b.length with h|h
    .exact h
    .rw[BM h]at e;cases e
   have S:b[i+k]?=some d:=by
    have:=B0 (xs:=b) (i:=i+k) (j:=0);rw[e]at this;simpa using this.symm
   have y:b.drop (i+(k+1))=l:=by
    rw[<-Ce,<-DL,e];rfl
   rw[if_pos (by omega),Fu,S,AB];have X:d.toNat<256:=d.toNat_lt;have J:w64 (7*(k:Int))=((7*k:Nat):Int):=by rw[Ai (by omega) (by omega)];push_cast;rfl
   have ed:w64 ((d.toNat:Nat):Int)=(d.toNat:Int):=Ai (by omega) (by omega);have em:Int.tmod (d.toNat:Int) 128=((d.toNat % 128:Nat):Int):=by rw[D4 (by omega)];rfl
   obtain⟨q,hs2⟩:=digit (a:=a) (k:=k) (c:=d.toNat % 128) (by omega) G (by omega);have B:w64 ((a:Int)+(AAM ((d.toNat % 128:Nat):Int) ((7*k:Nat):Int)))=((a+(d.toNat % 128)*2 ^ (7*k):Nat):Int):=by
    rw[AMj (by omega) (by omega),Ai (by omega) (by omega)];push_cast;rfl
   rw[J,B9 (by omega),ed,em,B];simp only[rdN,LJ,AB];have I:w64 ((k:Int)+1)=((k+1:Nat):Int):=Ai (by omega) (by omega);rw[I];by_cases E:d.toNat<128
   .rw[if_pos (by omega),if_pos E];have g:128 ^ k<=a+(d.toNat % 128)*2 ^ (7*k)↔d.toNat≠0:=by
     rw[AgP];constructor
     .rintro h O;rw[O]at h;simp at h;omega
     .intro h;have:1*128 ^ k<=d.toNat % 128*128 ^ k:=Ao _ (by omega);omega
    have H:((pN ((a+(d.toNat % 128)*2 ^ (7*k):Nat):Int)).length:Int)≠((k+1:Nat):Int)↔(0<k/\d.toNat=0)\/2147483647<a+(d.toNat % 128)*2 ^ (7*k):=by
     unfold pN;split
     .rename_i Z;rw[Ac];have:=AMG k _ q;rw[g]at this;rw[Ne,Int.ofNat_inj,this];omega
     .simp only[AN];omega
    grind[AD4,Ai]
   .rw[if_neg (by omega),if_neg E,<-hL,T9 Q hi f (k+1) _ n (by omega) (by omega) q,y]
theorem Ri{b:List UInt8}(c:b.length<2 ^ 62)(i:Int)(hi:i<2 ^ 62):A3v b i=some (gN b i):=by
 unfold A3v gN;by_cases a:0<=i
 .obtain⟨j,rfl⟩:=Ab a;have:=Ui c (i:=j) (by omega) 5 0 0 big (by omega) (JG _ (by omega)) (by omega);refine Eq.trans this ?_;simp only[Ac,Nat.add_zero];split
  .rfl
  .rw[BM (by omega)];rfl
 .obtain⟨n,e⟩:=Wu 0 (by omega)
  grind[EV,A2U,A1C,BA,AR]
theorem RY{b:List UInt8}(c:b.length<2 ^ 62)(i:Int):AQi b i=some (gN b i):=by
 unfold AQi gN;simp only[Up,AB,BI,BA];rw[Ai (by omega) (by omega)];by_cases a:0<=i/\i<b.length
 .obtain⟨j,rfl⟩:=Ab a.1;rw[if_pos (by omega),if_pos a];have:=T9 c (i:=j) (by omega) 5 0 0 big (by omega) (JG _ (by omega)) (by omega)
  grind
 grind
theorem AfI{n:Nat}(h:n<256):(UInt8.ofNat n).toNat=n:=by simp;omega
theorem AFy:∀(f k a n:Nat) (l:List UInt8),(FU n).length<=f->(k=0\/n≠0)->a+n*2 ^ (7*k)<=2147483647->rdN f k a (FU n++l)=some (a+n*2 ^ (7*k),k+(FU n).length)
 |0,k,a,n,l,h,_,_=>by have:=Ip n;omega|f+1,k,a,n,l,h,q,j=>by
  rcases AT n 128 with c|c
  .rw[Rf c];simp only[Es,CK,rdN,AH,AN];rw[AfI (by omega),if_pos c,LD c,if_neg (by omega)]
  .rw[ar c]at h ⊢;simp only[Es,rdN,AH]at h ⊢;rw[AfI (by omega),if_neg (by omega)];have e:(n % 128+128) % 128=n % 128:=by omega
   have g:a+n % 128*2 ^ (7*k)+n / 128*2 ^ (7*(k+1))=a+n*2 ^ (7*k):=by
    grind[Nat.mod_add_div]
   rw[e,AFy f (k+1) _ (n / 128) l (by omega) (by omega) (by rw[g];exact j),g];congr 2;omega
theorem pI:∀(f k a:Nat) (l:List UInt8) (N m:Nat),rdN f k a l=some (N,m)->∃n l',l=FU n++l'/\N=a+n*2 ^ (7*k)/\m=k+(FU n).length/\(k=0\/n≠0)/\N<=2147483647
 |0,k,a,l,N,m,h=>by cases h
 |f+1,k,a,[],N,m,h=>by cases h
 |f+1,k,a,d::l,N,m,h=>by
  have y:d.toNat<256:=d.toNat_lt;simp only[rdN]at h;split at h
  .rename_i e;split at h
   .cases h
   .rename_i B;cases h;refine⟨d.toNat,l,?_,?_,?_,by omega,by omega⟩
    .rw[Rf e];simp
    .rw[LD e]
    .rw[Rf e];rfl
  .rename_i e;obtain⟨n,l',g,E,j,G,q⟩:=pI f (k+1) _ l N m h;have H:n≠0:=by omega
   have c:128<=d.toNat % 128+128*n:=by omega
   refine⟨d.toNat % 128+128*n,l',?_,?_,?_,.inr (by omega),q⟩
   .rw[ar c,show (d.toNat % 128+128*n) % 128+128=d.toNat by omega,show (d.toNat % 128+128*n) / 128=n by omega,g];simp
   .grind
   .rw[ar c,show (d.toNat % 128+128*n) / 128=n by omega,j];simp only[AH];omega
def rdL:Nat->List UInt8->AA (List Int)
 |0,_=>none|f+1,[]=>some []|f+1,l=>match rdN 5 0 0 l with|some (n,m)=>(rdL f (l.drop m)).map ((n:Int)::·)|none=>none
def okN(n:Int):Prop:=0<=n/\n<=2147483647
def pL(l:List Int):List UInt8:=l.flatMap pN
theorem Aap{n:Int}(h:okN n):pN n=FU n.toNat:=by unfold pN;rw[if_pos (show 0<=n/\n<=2147483647 from h)]
theorem AFn{n:Int}(h:okN n):0<(pN n).length:=by rw[Aap h];exact Ip _
theorem AgV{n:Int}(h:okN n)(l:List UInt8):rdN 5 0 0 (pN n++l)=some (n.toNat,(pN n).length):=by
 rw[Aap h,AFy 5 0 0 n.toNat l (LM (by have:=h.2;omega)) (.inl rfl) (by have:=h.2;simp;omega)];simp
theorem AFx:∀(l:List Int) (f:Nat),(∀n∈l,okN n)->(pL l).length<f->rdL f (pL l)=some l
 | [],f,_,h=>by
  obtain⟨f,rfl⟩:∃g,f=g+1:=⟨f-1,by omega⟩;rfl
 |n::l,f,j,h=>by
  obtain⟨f,rfl⟩:∃g,f=g+1:=⟨f-1,by omega⟩;have a:=j n (by simp);have q:=AFn a;have e:pL (n::l)=pN n++pL l:=by simp[pL]
  rw[e]at h ⊢;have c:pN n++pL l≠[]:=by intro h;rw[IP]at h;rw[h.1]at q;simp at q
  rw[rdL.eq_3 _ _ (by simpa using c),AgV a];simp only[EX];rw[AFx l f (fun m y=>j m (by simp[y])) (by rw[AM]at h;omega)];simp only[Option.map_some,Int.toNat_of_nonneg a.1]
theorem jT:∀(f:Nat) (s:List UInt8) (l:List Int),rdL f s=some l->s=pL l/\∀n∈l,okN n
 |0,s,l,h=>by cases h
 |f+1,[],l,h=>by cases h;exact⟨rfl,by simp⟩
 |f+1,d::s,l,h=>by
  rw[rdL.eq_3 _ _ (by simp)]at h;split at h
  .rename_i n m B;obtain⟨H,l',c,e,g,_,G⟩:=pI _ _ _ _ _ _ B;simp only[Nat.mul_zero,Nat.pow_zero,Nat.mul_one,Av]at e g;subst e g;rw[Option.map_eq_some_iff]at h;obtain⟨E,j,rfl⟩:=h;rw[c,EX]at j;obtain⟨q,y⟩:=jT f l' E j;refine⟨?_,?_⟩
   .rw[c,q];simp only[pL,Cn];rw[Aap ⟨by omega,by omega⟩];simp
   .intro x a;rcases List.mem_cons.1 a with rfl|a
    .exact⟨by omega,by omega⟩
    .exact y x a
  .cases h
def APN:AA (List Int)->List Int×Bool|some l=>(l,true)|none=>([],false)
theorem y4{b:List UInt8}(y:b.length<=1048576){G:List UInt8->Int->AA (Int×Int×Bool)}(hG:∀i:Int,i<2 ^ 62->G b i=some (gN b i))
 {F:(List Int×Int->AA (List Int×Bool))->List Int×Int->AA (List Int×Bool)}
 (hF:∀L acc i,F L (acc,i)=if i<(b.length:Int) then bd (G b i) fun x=>br (!x.2.2) (some ([],false)) (gd (acc.length+1<=lim) (L (acc++[x.1],x.2.1))) else some (acc,true)) :
 ∀(f i n:Nat) (acc:List Int),b.length<f+i->f<=n->acc.length<=i->i<=b.length->A4 F n (acc,(i:Int))=some (match rdL f (b.drop i) with|some l=>(acc++l,true)|none=>([],false))
 |0,i,n,acc,e,g,j,q=>by omega|f+1,i,n,acc,e,g,j,q=>by
  obtain⟨n,rfl⟩:∃m,n=m+1:=⟨n-1,by omega⟩;rw[EV,hF];by_cases hi:i<b.length
  .rw[if_pos (by omega),hG _ (by omega),AB];unfold gN;rw[if_pos (by omega),Ac];have c:b.drop i≠[]:=by intro h;rw[GL]at h;omega
   rw[rdL.eq_3 _ _ (by simpa using c)];cases B:rdN 5 0 0 (b.drop i) with
   |none=>rfl|some p=>
    obtain⟨v,m⟩:=p;obtain⟨H,l',E,J,O,_,_⟩:=pI _ _ _ _ _ _ B;have I:0<m:=by have:=Ip H;omega
    have a:i+m<=b.length:=by
     have:=congrArg List.length E;rw[List.length_drop,AM]at this;omega
    simp only[AD4,BI,BH];rw[B9 (by unfold lim;omega),y4 y hG hF f (i+m) n (acc++[(v:Int)]) (by omega) (by omega) (by rw[AM];simp;omega) a,<-DL]
    grind
  .rw[if_neg (by omega),BM (by omega)];simp[rdL]
theorem jk{b:List UInt8}(a:b.length<=1048576):A26 b=some (APN (rdL (b.length+1) b)):=by
 unfold A26;have:=y4 a (G:=A3v) (F:=A19 b) (fun i hi=>Ri (by omega) i hi) (fun L acc i=>by unfold A19 A18;simp only[BA,AR];rfl) (b.length+1) 0 big [] (by omega) (by have:=Wt;omega) (by simp) (by omega);refine Eq.trans this ?_;simp only[C3,CK];cases rdL (b.length+1) b<;>rfl
theorem il{b:List UInt8}(a:b.length<=1048576):AYF b=some (APN (rdL (b.length+1) b)):=by
 unfold AYF;have:=y4 a (G:=AQi) (F:=rb b) (fun i hi=>RY (by omega) i) (fun L acc i=>by unfold rb AHx;simp only[BA,AR];rfl) (b.length+1) 0 big [] (by omega) (by have:=Wt;omega) (by simp) (by omega);refine Eq.trans this ?_;simp only[C3,CK];cases rdL (b.length+1) b<;>rfl
theorem yq{l:List Int}(h:l.length<=10000000){G:Int->AA (List UInt8)}(hG:∀n,G n=some (pN n))
 {F:(List UInt8×Int->AA (List UInt8))->List UInt8×Int->AA (List UInt8)}
 (hF:∀L acc i,F L (acc,i)=if i<(l.length:Int) then bd (at? l i) fun x=>bd (G x) fun y=>gd (acc.length+y.length<=lim) (L (acc++y,w64 (i+1))) else some acc) :
 ∀(f i n:Nat) (acc:List UInt8),l.length<f+i->f<=n->acc.length<=5*i->i<=l.length->A4 F n (acc,(i:Int))=some (acc++pL (l.drop i))
 |0,i,n,acc,a,c,e,g=>by omega|f+1,i,n,acc,a,c,e,g=>by
  obtain⟨n,rfl⟩:∃m,n=m+1:=⟨n-1,by omega⟩;rw[EV,hF];by_cases hi:i<l.length
  .rw[if_pos (by omega),Fu,AW hi,AB,hG,AB];have:=TI l[i];rw[B9 (by unfold lim;omega),Ai (by omega) (by omega)];have:=yq h hG hF f (i+1) n (acc++pN l[i]) (by omega) (by omega) (by rw[AM];omega) hi;refine Eq.trans this ?_;rw[HI hi];simp only[pL,Cn,List.append_assoc]
  .rw[if_neg (by omega),BM (by omega)];simp[pL]
theorem jj{l:List Int}(a:l.length<=10000000):BGq l=some (pL l):=by
 unfold BGq;have:=yq a (G:=BG5) (F:=BH2 l) Z8 (fun L acc i=>by unfold BH2 BJE;simp only[BA,AR]) (l.length+1) 0 big [] (by omega) (by have:=Wt;omega) (by simp) (by omega);simpa using this
theorem iq{l:List Int}(a:l.length<=10000000):Agy l=some (pL l):=by
 unfold Agy;have:=yq a (G:=Agx) (F:=BAk l) LJ (fun L acc i=>by unfold BAk A9U;simp only[BA,AR]) (l.length+1) 0 big [] (by omega) (by have:=Wt;omega) (by simp) (by omega);simpa using this
def fld(n:Int):Bool:=decide (0<=n/\n<=9999)
def Hm(q:BX):Bool:=
 if q.Kind=1 then fld q.Id&&fld q.Aa&&decide (-1<=q.Bl/\q.Bl<=9999)&&fld q.A2&&fld q.Cj
 else if q.Kind=2\/q.Kind=4\/q.Kind=5\/q.Kind=7 then fld q.Id&&(q.Aa==0&&(q.Bl==0&&(q.A2==0&&q.Cj==0)))
 else if q.Kind=3 then fld q.Aa&&fld q.A2&&(q.Id==0&&(q.Bl==0&&q.Cj==0))
 else if q.Kind=6 then q.Id==0&&(q.Aa==0&&(q.Bl==0&&(q.A2==0&&q.Cj==0)))
 else false
def E0(q:BX):List Int:=
 if q.Kind=1 then [q.Kind,q.Id,q.Aa,q.Bl+1,q.A2,q.Cj]
 else if q.Kind=3 then [q.Kind,q.Aa,q.A2]
 else if q.Kind=6 then [q.Kind]
 else [q.Kind,q.Id]
def F5(q:BX):List UInt8:=if Hm q then pL (E0 q) else []
@[simp] theorem APf(n:Int):Ee n=some (fld n):=by unfold Ee fld;simp
@[simp] theorem AOe(n:Int):AAu n=some (fld n):=by unfold AAu fld;simp
theorem APe(q:BX):z8 q=some (Hm q):=by
 obtain⟨k,a,b,c,d,e⟩:=q;unfold z8 U3 AsO U3 Hm;simp only[BZ,AR,APf,AB,pB,beq_iff_eq]
 grind
theorem AOd(q:BX):AYD q=some (Hm q):=by
 obtain⟨k,a,b,c,d,e⟩:=q;unfold AYD fH A8i fH Hm;simp only[BZ,AR,AOe,AB,Up,beq_iff_eq]
 grind
theorem Jt{q:BX}(h:Hm q=true):(q.Kind=1/\(0<=q.Id/\q.Id<=9999)/\(0<=q.Aa/\q.Aa<=9999)/\(-1<=q.Bl/\q.Bl<=9999)/\(0<=q.A2/\q.A2<=9999)/\(0<=q.Cj/\q.Cj<=9999)) \/
 ((q.Kind=2\/q.Kind=4\/q.Kind=5\/q.Kind=7)/\(0<=q.Id/\q.Id<=9999)/\q.Aa=0/\q.Bl=0/\q.A2=0/\q.Cj=0) \/
 (q.Kind=3/\(0<=q.Aa/\q.Aa<=9999)/\(0<=q.A2/\q.A2<=9999)/\q.Id=0/\q.Bl=0/\q.Cj=0) \/
 (q.Kind=6/\q.Id=0/\q.Aa=0/\q.Bl=0/\q.A2=0/\q.Cj=0):=by
 unfold Hm fld at h;split at h
 .grind
 split at h
 .grind
 split at h
 .grind
 grind
theorem y7{q:BX}(h:Hm q=true):∀n∈E0 q,okN n:=by
 grind[Jt,E0,okN]
theorem nr(q:BX):0<(E0 q).length/\(E0 q).length<=6:=by
 grind[E0]
theorem cA{q:BX}:BIP q=some (F5 q):=by
 unfold BIP F5;rw[APe,AB,BI,BZ]
 grind[Hm,E0,BZ,Ai,jj,AB]
theorem bh{q:BX}:rV q=some (F5 q):=by
 grind[rV,BJh,F5,AOd,AB,BZ,Hm,E0,AR,B9,lim,Ai,iq]
theorem Zp{n:Int}{l:List Int}(h:okN n):pL (n::l)≠[]:=by
 intro a;have:=AFn h;simp only[pL,Cn,IP]at a
 grind
theorem AUE{q:BX}(h:Hm q=true):F5 q≠[]:=by
 grind[F5,y7,E0,Zp]
theorem Aao:∀l:List Int,(pL l).length<=5*l.length
 | []=>by simp[pL]|n::l=>by
  have c:=TI n;have a:=Aao l;simp only[pL,Cn,AM,AH]at a ⊢;omega
theorem Ab9(q:BX):(F5 q).length<=30:=by
 grind[F5,Aao,nr]
theorem Ue{q:BX}(h:Hm q=true)(f:Nat)(a:(F5 q).length<f):rdL f (F5 q)=some (E0 q):=by
 grind[F5,AFx,y7]
noncomputable def Qz(s:List UInt8):BX×Bool:=open Classical in if h:∃q,Hm q=true/\F5 q=s then (h.choose,true) else (⟨0,0,0,0,0,0⟩,false)
theorem AMW{q q':BX}(h:Hm q=true)(a:Hm q'=true)(c:E0 q=E0 q'):q=q':=by
 grind[BX,E0,Jt]
theorem Ab8{q q':BX}(h:Hm q=true)(a:Hm q'=true)(e:F5 q=F5 q'):q=q':=by
 have c:=Ue h ((F5 q).length+1) (by omega)
 grind[Ue,AMW]
theorem AcA{q:BX}(h:Hm q=true):Qz (F5 q)=(q,true):=by
 unfold Qz;have a:∃q',Hm q'=true/\F5 q'=F5 q:=⟨q,h,rfl⟩
 grind[Ab8]
theorem NG{s:List UInt8}(h:∀q,Hm q=true->F5 q≠s):Qz s=(⟨0,0,0,0,0,0⟩,false):=by
 grind[Qz]
theorem oW{γ:Type}(a b:List UInt8)(x y:AA γ):br (a != b) x y=if a=b then y else x:=by
 unfold br;by_cases h:a=b
 .simp[h]
 .rw[if_neg h,if_pos (by simpa using h)]
theorem oQ(s:List UInt8)(q:BX):BGl s q=if F5 q=s then some (q,true) else some (⟨0,0,0,0,0,0⟩,false):=by
 unfold BGl;rw[cA,AB,oW]
theorem oJ(s:List UInt8)(q:BX):BJS s q=if F5 q=[]\/F5 q≠s then some (⟨0,0,0,0,0,0⟩,false) else some (q,true):=by
 unfold BJS BJ9;rw[bh,AB];simp only[AR,oW,BH];by_cases h:F5 q=[]
 .rw[if_pos (Or.inl h),h];rfl
 .rw[BZ,if_neg (by simpa using h)];by_cases a:F5 q=s
  .rw[if_pos a,if_neg (by simp[a];rw[<-a];exact h)]
  .rw[if_neg a,if_pos (.inr a)]
theorem LP{s:List UInt8}{q:BX}(j:s≠[])(h:∀q',Hm q'=true->F5 q'=s->q'=q):(if F5 q=s then some (q,true) else some (⟨0,0,0,0,0,0⟩,false))=some (Qz s):=by
 by_cases a:F5 q=s
 .rw[if_pos a];have e:Hm q=true:=by
   by_cases c:Hm q=true
   .exact c
   .unfold F5 at a;rw[if_neg c]at a;exact absurd a.symm j
  rw[<-a,AcA e]
 .rw[if_neg a,NG];intro q' c g;have:=h q' c g;subst this;exact a g
theorem ACm{s:List UInt8}{f:Nat}(h:rdL f s=none)(c:s.length<f):∀q,Hm q=true->F5 q≠s:=by
 rintro q a rfl;rw[Ue a f c]at h;cases h
theorem jg{s:List UInt8}(S:s.length<=1048576):BHA s=some (Qz s):=by
 unfold BHA;rw[BA];by_cases H:(s.length:Int)>60
 .rw[if_pos H,NG];rintro q _ rfl;have:=Ab9 q;omega
 rw[if_neg H,jk S,AB];cases L:rdL (s.length+1) s with
 |none=>
  simp only[APN,BI,BN,AR];unfold BG9;rw[BH,NG (ACm L (by omega))]
 |some l=>
  obtain⟨J,I⟩:=jT _ _ _ L;simp only[APN,BI,BH,AR];unfold BG9;cases l with
  |nil=>
   simp only[AN];show br true _ _=_;rw[BH,NG];rintro q j B;exact AUE j (B.trans J)
  |cons n l=>
   have E:s≠[]:=by rw[J];exact Zp (I n (by simp))
   have O:((((n::l).length:Nat):Int)==0)=false:=by rw[AH,beq_eq_false_iff_ne];omega
   have G:∀q,Hm q=true->F5 q=s->E0 q=n::l:=by
    rintro q j rfl;have:=Ue j ((F5 q).length+1) (by omega);rw[L]at this;simpa using this.symm
   simp only[O,BN];simp only[eE,AP,AB,oQ,AR,BZ,beq_iff_eq];have okq:∀m∈n::l,0<=m/\m<=2147483647:=fun m Q=>I m Q
   match l,G,okq with
   | [],G,_=>
    rw[if_neg (by simp),if_neg (by simp),if_neg (by simp)];refine LP E fun q j B=>?_
    obtain⟨k,a,b,c,d,e⟩:=q;have g:=G _ j B;unfold E0 at g;rcases Jt j with h|h|h|h<;>dsimp only at h g
    .rw[if_pos h.1]at g;simp at g
    .rw[if_neg (by omega),if_neg (by omega),if_neg (by omega)]at g;simp at g
    .rw[if_neg (by omega),if_pos h.1]at g;simp at g
    .rw[if_neg (by omega),if_neg (by omega),if_pos h.1]at g;simp at g;simp;omega
   | [x],G,okq=>
    rw[if_pos (by simp)];simp only[show at? [n,x] 1=some x from rfl,AB];refine LP E fun q j B=>?_
    obtain⟨k,a,b,c,d,e⟩:=q;have g:=G _ j B;unfold E0 at g;rcases Jt j with h|h|h|h<;>dsimp only at h g
    .rw[if_pos h.1]at g;simp at g
    .rw[if_neg (by omega),if_neg (by omega),if_neg (by omega)]at g;simp at g;simp;omega
    .rw[if_neg (by omega),if_pos h.1]at g;simp at g
    .rw[if_neg (by omega),if_neg (by omega),if_pos h.1]at g;simp at g
   | [x,y],G,okq=>
    rw[if_neg (by simp),if_pos (by simp)];simp only[show at? [n,x,y] 1=some x from rfl,show at? [n,x,y] 2=some y from rfl,AB];refine LP E fun q j B=>?_
    obtain⟨k,a,b,c,d,e⟩:=q;have g:=G _ j B;unfold E0 at g;rcases Jt j with h|h|h|h<;>dsimp only at h g
    .rw[if_pos h.1]at g;simp at g
    .rw[if_neg (by omega),if_neg (by omega),if_neg (by omega)]at g;simp at g
    .rw[if_neg (by omega),if_pos h.1]at g;simp at g;simp;omega
    .rw[if_neg (by omega),if_neg (by omega),if_pos h.1]at g;simp at g
   | [x,y,z,u,v],G,okq=>
    have X:=okq z (by simp);rw[if_neg (by simp),if_neg (by simp),if_pos (by simp)];simp only[show at? [n,x,y,z,u,v] 1=some x from rfl,show at? [n,x,y,z,u,v] 2=some y from rfl,show at? [n,x,y,z,u,v] 3=some z from rfl,show at? [n,x,y,z,u,v] 4=some u from rfl,show at? [n,x,y,z,u,v] 5=some v from rfl,AB];rw[Ai (by omega) (by omega)];refine LP E fun q j B=>?_
    obtain⟨k,a,b,c,d,e⟩:=q;have g:=G _ j B;unfold E0 at g;rcases Jt j with h|h|h|h<;>dsimp only at h g
    .rw[if_pos h.1]at g;simp at g;simp;omega
    .rw[if_neg (by omega),if_neg (by omega),if_neg (by omega)]at g;simp at g
    .rw[if_neg (by omega),if_pos h.1]at g;simp at g
    .rw[if_neg (by omega),if_neg (by omega),if_pos h.1]at g;simp at g
   | [x,y,z],G,okq=>
    rw[if_neg (by simp),if_neg (by simp),if_neg (by simp)];refine LP E fun q j B=>?_
    have g:=congrArg List.length (G _ j B)
    have:(E0 q).length≠4:=by unfold E0;repeat' split
                             all_goals simp
    simp at g;omega
   | [x,y,z,u],G,okq=>
    rw[if_neg (by simp),if_neg (by simp),if_neg (by simp)];refine LP E fun q j B=>?_
    have g:=congrArg List.length (G _ j B)
    have:(E0 q).length≠5:=by unfold E0;repeat' split
                             all_goals simp
    simp at g;omega
   |x::y::z::u::v::w::r,G,okq=>
    rw[if_neg (by simp;omega),if_neg (by simp;omega),if_neg (by simp;omega)];refine LP E fun q j B=>?_
    have g:=congrArg List.length (G _ j B);have:=(nr q).2;simp at g;omega
theorem iu{s:List UInt8}{q:BX}(c:s≠[])(h:∀q',Hm q'=true->F5 q'=s->q'=q):(if F5 q=[]\/F5 q≠s then some (⟨0,0,0,0,0,0⟩,false) else some (q,true))=some (Qz s):=by
 rw[<-LP c h];by_cases a:F5 q=s
 .rw[if_pos a,if_neg];rw[a];simp[c]
 .rw[if_neg a,if_pos (.inr a)]
theorem AEz{s:List UInt8}(hs:s.length<=1048576):AA1 s=some (Qz s):=by
 unfold AA1;rw[il hs,AB];cases Z:rdL (s.length+1) s with
 |none=>
  simp only[APN,BI,BN,AR];unfold BJr;rw[BH,NG (ACm Z (by omega))]
 |some l=>
  obtain⟨I,H⟩:=jT _ _ _ Z;simp only[APN,BI,BH,AR];unfold BJr;cases l with
  |nil=>
   simp only[AN];show br true _ _=_;rw[BH,NG];rintro q j G;exact AUE j (G.trans I)
  |cons n l=>
   have B:s≠[]:=by rw[I];exact Zp (H n (by simp))
   have hb:((((n::l).length:Nat):Int)==0)=false:=by rw[AH,beq_eq_false_iff_ne];omega
   have hq:∀q,Hm q=true->F5 q=s->E0 q=n::l:=by
    rintro q j rfl;have:=Ue j ((F5 q).length+1) (by omega);rw[Z]at this;simpa using this.symm
   have Y:(n::l).length<=s.length:=by
    rw[I];have:∀l:List Int,(∀m∈l,okN m)->l.length<=(pL l).length:=by
     intro l
     induction l with
     |nil=>simp|cons m l ih=>
      intro h;have j:=AFn (h m (by simp));have G:=ih fun x J=>h x (by simp[J])
      simp only[pL,Cn,AM,AH]at G ⊢;omega
    exact this _ H
   rw[AH]at Y;have e1:Int.toNat 1=1:=rfl;have e5:Int.toNat 5=5:=rfl;have ed:List.take ((n::l).length-1) (List.drop 1 (n::l))=l:=by simp
   simp only[hb,BN];simp only[eE,AP,AB,oJ,AR,BZ,beq_iff_eq,e1,e5,ed];rw[B9 (by simp;omega),B9 (by simp;omega),B9 (by unfold lim;omega)];have okq:∀m∈n::l,0<=m/\m<=2147483647:=fun m hm=>H m hm
   have J:∀(i:Nat),i<5->∃x,(l++List.replicate 5 (0:Int))[i]?=some x/\(0<=x/\x<=2147483647)/\(∀y,l[i]?=some y->x=y):=by
    intro i hi;have O:i<(l++List.replicate 5 (0:Int)).length:=by rw[AM,List.length_replicate];omega
    refine⟨_,AW O,?_,?_⟩
    .have:(l++List.replicate 5 (0:Int))[i]∈l++List.replicate 5 (0:Int):=List.getElem_mem O;rw[List.mem_append,List.mem_replicate]at this;rcases this with h|h
     .exact okq _ (List.mem_cons_of_mem _ h)
     .omega
    .intro y hy;have X:=(List.getElem?_eq_some_iff.1 hy);obtain⟨j,G⟩:=X;rw[List.getElem_append_left j,G]
   obtain⟨S,hx0,b0,i0⟩:=J 0 (by omega);obtain⟨x1,hx1,b1,i1⟩:=J 1 (by omega);obtain⟨x2,hx2,b2,i2⟩:=J 2 (by omega);obtain⟨x3,hx3,b3,i3⟩:=J 3 (by omega);obtain⟨x4,hx4,b4,i4⟩:=J 4 (by omega);have a0:(l++List.replicate 5 (0:Int))[0]?=some S:=hx0;have a1:at? (l++List.replicate 5 (0:Int)) 1=some x1:=by rw[show (1:Int)=((1:Nat):Int) from rfl,Fu];exact hx1
   have a2:at? (l++List.replicate 5 (0:Int)) 2=some x2:=by rw[show (2:Int)=((2:Nat):Int) from rfl,Fu];exact hx2
   have a3:at? (l++List.replicate 5 (0:Int)) 3=some x3:=by rw[show (3:Int)=((3:Nat):Int) from rfl,Fu];exact hx3
   have a4:at? (l++List.replicate 5 (0:Int)) 4=some x4:=by rw[show (4:Int)=((4:Nat):Int) from rfl,Fu];exact hx4
   simp only[a0,a1,a2,a3,a4,AB];rw[Ai (n:=x2-1) (by omega) (by omega)];have shape:∀q,Hm q=true->F5 q=s->q=(if n=1 then ⟨n,S,x1,x2-1,x3,x4⟩ else if n=3 then ⟨n,0,S,0,x1,0⟩ else if n=6 then ⟨n,0,0,0,0,0⟩ else ⟨n,S,0,0,0,0⟩):=by
    intro q j G;obtain⟨k,a,b,c,d,e⟩:=q;have g:=hq _ j G;unfold E0 at g;rcases Jt j with h|h|h|h<;>dsimp only at h g
    .rw[if_pos h.1]at g;obtain⟨rfl,rfl⟩:=List.cons.inj g;rw[if_pos h.1];have j0:=i0 _ rfl;have j1:=i1 _ rfl;have j2:=i2 _ rfl;have j3:=i3 _ rfl;have j4:=i4 _ rfl;simp;omega
    .rw[if_neg (by omega),if_neg (by omega),if_neg (by omega)]at g;obtain⟨rfl,rfl⟩:=List.cons.inj g;rw[if_neg (by omega),if_neg (by omega),if_neg (by omega)];have j0:=i0 _ rfl;simp;omega
    .rw[if_neg (by omega),if_pos h.1]at g;obtain⟨rfl,rfl⟩:=List.cons.inj g;rw[if_neg (by omega),if_pos h.1];have j0:=i0 _ rfl;have j1:=i1 _ rfl;simp;omega
    .rw[if_neg (by omega),if_neg (by omega),if_pos h.1]at g;obtain⟨rfl,rfl⟩:=List.cons.inj g;rw[if_neg (by omega),if_neg (by omega),if_pos h.1];simp;omega
   by_cases E:n=1
   .rw[if_pos E];simp only[if_pos E]at shape;exact iu B shape
   by_cases L:n=3
   .rw[if_neg E,if_pos L];simp only[if_neg E,if_pos L]at shape;exact iu B shape
   by_cases Q:n=6
   .rw[if_neg E,if_neg L,if_pos Q];simp only[if_neg E,if_neg L,if_pos Q]at shape;exact iu B shape
   .rw[if_neg E,if_neg L,if_neg Q];simp only[if_neg E,if_neg L,if_neg Q]at shape;exact iu B shape
@[simp] theorem Afu(q:BX):A9H q q=some true:=by
 unfold A9H;simp[BZ]
def kH(v:Nat):Nat:=if v % 2=1 then (v / 2) ^^^ 3988292384 else v / 2
def eO:Nat->Nat->Nat|0,v=>v|k+1,v=>eO k (kH v)
def aJ:Nat->List UInt8->Nat|v,[]=>v|v,x::l=>aJ (eO 8 (v ^^^ x.toNat)) l
def LI(s:List UInt8):Nat:=aJ 4294967295 s ^^^ 4294967295
theorem AAg{v:Nat}(h:v<2 ^ 32):kH v<2 ^ 32:=by
 unfold kH;split
 .exact Dr (by omega) (by omega)
 .omega
theorem cO:∀k {v:Nat},v<2 ^ 32->eO k v<2 ^ 32|0,_,h=>h|k+1,_,h=>cO k (AAg h)
theorem cP:∀(l:List UInt8) {v:Nat},v<2 ^ 32->aJ v l<2 ^ 32| [],_,h=>h|x::l,v,h=>cP l (cO 8 (Dr h (by have:=x.toNat_lt;omega)))
theorem Uq{a b:Nat}(c:a<2 ^ 63)(e:b<2 ^ 63):bN (a:Int) (b:Int)=((a ^^^ b:Nat):Int):=by
 unfold bN;rw[BitVec.toNat_xor,UN c,UN e];have:a ^^^ b<2 ^ 63:=Dr c e;rw[bE (by omega) (by omega)]
theorem AXp{a b:Nat}(c:a<2 ^ 63)(e:b<2 ^ 63):pP (a:Int) (b:Int)=((a &&& b:Nat):Int):=by
 grind[UN,Nat.and_le_left,bE]
theorem AhL(a:Nat):Dx (a:Int) 1=((a / 2:Nat):Int):=by
 grind[IntKind.bits]
theorem pg{γ:Type}{F:(Int×Int->AA γ)->Int×Int->AA γ}{G:Int->AA γ}
 (hF:∀L (v k:Nat),v<2 ^ 32->k<=8->F L ((v:Int),(k:Int))=if k<8 then L (((kH v:Nat):Int),((k+1:Nat):Int)) else G (v:Int)) :
 ∀(m k v n:Nat),k+m=8->m<n->v<2 ^ 32->A4 F n ((v:Int),(k:Int))=G ((eO m v:Nat):Int)
 |0,k,v,0,_,h,_=>by omega|0,k,v,n+1,c,_,a=>by rw[EV,hF _ _ _ a (by omega),if_neg (by omega)];rfl|m+1,k,v,0,_,h,_=>by omega|m+1,k,v,n+1,c,h,a=>by
  rw[EV,hF _ _ _ a (by omega),if_pos (by omega),pg hF m (k+1) _ n (by omega) (by omega) (AAg a)];rfl
theorem pf{s:List UInt8}{γ:Type}{F:(Int×Int->AA γ)->Int×Int->AA γ}{G:Int->AA γ}(e:s.length<2 ^ 62)
 (hF:∀L (v i:Nat),v<2 ^ 32->i<=s.length->F L ((v:Int),(i:Int))=match s[i]? with|none=>G (v:Int)|some x=>L (((eO 8 (v ^^^ x.toNat):Nat):Int),((i+1:Nat):Int))) :
 ∀(m i v n:Nat),i+m=s.length->m<n->v<2 ^ 32->A4 F n ((v:Int),(i:Int))=G ((aJ v (s.drop i):Nat):Int)
 |0,i,v,0,_,h,_=>by omega|0,i,v,n+1,hi,_,c=>by
  rw[EV,hF _ _ _ c (by omega),DV (by omega),BM (by omega)];rfl
 |m+1,i,v,0,_,h,_=>by omega|m+1,i,v,n+1,hi,h,c=>by
  have a:i<s.length:=by omega
  rw[EV,hF _ _ _ c (by omega),AW a];dsimp only;rw[pf e hF m (i+1) _ n (by omega) (by omega) (cO 8 (Dr c (by have:=s[i].toNat_lt;omega))),HI a];rfl
theorem AMo{s:List UInt8}(B:s.length<2 ^ 62):BJU s=some ((LI s:Nat):Int):=by
 unfold BJU;have:=pf (F:=BJI s) (G:=fun v=>some (bN v 4294967295)) B ?_ s.length 0 4294967295 big (by omega) (JG _ (by omega)) (by omega)
 .refine Eq.trans this ?_;have e:=Uq (a:=aJ 4294967295 s) (b:=4294967295) (by have:=cP s (v:=4294967295) (by omega);omega) (by omega);show some (bN _ ((4294967295:Nat):Int))=_;rw[C3,e];rfl
 .intro L v i j hi;unfold BJI BJk;simp only[BA,AR,Fu];by_cases h:i<s.length
  .rw[if_pos (by omega),AW h,AB];dsimp only;have H:=s[i].toNat_lt;rw[Ai (by omega) (by omega),Uq (by omega) (by omega)];have:=pg (F:=BJJ L (i:Int)) (G:=fun v=>L (v,((i+1:Nat):Int))) ?_ 8 0 (v ^^^ s[i].toNat) big (by omega) (JG _ (by omega)) (Dr j (by omega))
   .exact this
   .intro L5 v k j E;unfold BJJ BJH BJj;simp only[BA,AR];by_cases g:k<8
    .rw[if_pos (by omega),if_pos g];have q:Int.tmod (v:Int) 2=((v % 2:Nat):Int):=by rw[D4 (by omega)];omega
     have y:Int.tdiv (v:Int) 2=((v / 2:Nat):Int):=by rw[G8 (by omega)];omega
     rw[q,y,Ai (by omega) (by omega),Ai (n:=(k:Int)+1) (by omega) (by omega),BZ,show (3988292384:Int)=((3988292384:Nat):Int) from rfl,Uq (by omega) (by omega)];unfold kH;by_cases c:v % 2=1
     .rw[if_pos (by rw[c];rfl),if_pos c];rfl
     .rw[if_neg (by rw[beq_iff_eq];omega),if_neg c];rfl
    .rw[if_neg (by omega),if_neg g,Ai (by omega) (by omega)];rfl
  .rw[if_neg (by omega),DV (by omega)]
theorem ALh{s:List UInt8}(y:s.length<2 ^ 62):AYE s=some ((LI s:Nat):Int):=by
 unfold AYE;have:=pf (F:=BCW s) (G:=fun v=>some (bN v 4294967295)) y ?_ s.length 0 4294967295 big (by omega) (JG _ (by omega)) (by omega)
 .refine Eq.trans this ?_;have e:=Uq (a:=aJ 4294967295 s) (b:=4294967295) (by have:=cP s (v:=4294967295) (by omega);omega) (by omega);show some (bN _ ((4294967295:Nat):Int))=_;rw[C3,e];rfl
 .intro L v i j hi;unfold BCW BKe;simp only[BA,AR,Fu];by_cases h:i<s.length
  .rw[if_pos (by omega),AW h,AB];dsimp only;have E:=s[i].toNat_lt;rw[Ai (by omega) (by omega),Uq (by omega) (by omega)];have:=pg (F:=BJ4 L (i:Int)) (G:=fun v=>L (v,((i+1:Nat):Int))) ?_ 8 0 (v ^^^ s[i].toNat) big (by omega) (JG _ (by omega)) (Dr j (by omega))
   .exact this
   .intro L5 v k j B;unfold BJ4 BJ3 BKd;simp only[BA,AR];by_cases g:k<8
    .rw[if_pos (by omega),if_pos g];have q:pP (v:Int) 1=((v % 2:Nat):Int):=by
      rw[show (1:Int)=((1:Nat):Int) from rfl,AXp (by omega) (by omega),Nat.and_one_is_mod]
     rw[q,AhL,Ai (n:=(k:Int)+1) (by omega) (by omega),BZ,show (3988292384:Int)=((3988292384:Nat):Int) from rfl,Uq (by omega) (by omega)];unfold kH;by_cases c:v % 2=1
     .rw[if_pos (by rw[c];rfl),if_pos c];rfl
     .rw[if_neg (by rw[beq_iff_eq];omega),if_neg c];rfl
    .rw[if_neg (by omega),if_neg g,Ai (by omega) (by omega)];rfl
  .rw[if_neg (by omega),DV (by omega)]
def four(c:Int):List UInt8:=[toB (Dx c 24),toB (Dx c 16),toB (Dx c 8),toB c]
theorem HM(c:Int):(four c).length=4:=rfl
def T5(q:Int)(b:List UInt8):Prop:=(1<=q/\q<=1000000)/\(1<=b.length/\b.length<=60)
instance (q:Int) (b:List UInt8):Decidable (T5 q b):=by unfold T5;infer_instance
def frT(q:Int)(b:List UInt8):List UInt8:=four ((LI (pN q++b):Nat):Int)++(pN q++b)
def frB(q:Int)(b:List UInt8):List UInt8:=if T5 q b then pN ((frT q b).length:Int)++frT q b else []
theorem RU{q:Int}{b:List UInt8}(h:T5 q b):6<=(frT q b).length/\(frT q b).length<=69:=by
 have a:=TI q;have c:0<(pN q).length:=by unfold pN;rw[if_pos (by have:=h.1;omega)];exact Ip _
 have:=h.2;simp only[frT,AM,HM];omega
theorem iX{q:Int}{b:List UInt8}(h:T5 q b):7<=(frB q b).length/\(frB q b).length<=74:=by
 have:=RU h;have a:=TI ((frT q b).length:Int);have c:0<(pN ((frT q b).length:Int)).length:=by unfold pN;rw[if_pos (by omega)];exact Ip _
 unfold frB;rw[if_pos h,AM];omega
theorem AY2{q:Int}{b:List UInt8}(h:frB q b≠[]):T5 q b:=by
 grind[frB]
theorem PN(q:Int)(b:List UInt8):BIX q b=some (frB q b):=by
 unfold BIX BHi;simp only[pB,AB,AR,BI,BH];by_cases c:1<=q/\q<=1000000
 .rw[decide_eq_true c,BH];by_cases g:(1:Int)<=b.length/\(b.length:Int)<=60
  .have a:T5 q b:=⟨c,by omega⟩;have j:=TI q;rw[decide_eq_true g,BH,Z8,AB,B9 (by unfold On;omega),AMo (by rw[AM];omega),AB];unfold BIH;rw[AB,B9 (by simp only[AM,AH,AN];unfold On;omega),Z8,AB];have e:[toB (Dx ((LI (pN q++b):Nat):Int) 24),toB (Dx ((LI (pN q++b):Nat):Int) 16),toB (Dx ((LI (pN q++b):Nat):Int) 8),toB ((LI (pN q++b):Nat):Int)]++(pN q++b)=frT q b:=rfl;rw[e];have:=TI ((frT q b).length:Int);have:=RU a;rw[B9 (by unfold On;omega)];unfold frB;rw[if_pos a]
  .rw[decide_eq_false g,BN];unfold frB;rw[if_neg (fun h=>g ⟨by have:=h.2;omega,by have:=h.2;omega⟩)]
 .rw[decide_eq_false c,BN];unfold frB;rw[if_neg (fun h=>c h.1)]
theorem Vi(q:Int)(b:List UInt8):nD q b=some (frB q b):=by
 unfold nD BJ7;simp only[Up,AB,AR,BI,BH];by_cases c:1<=q/\q<=1000000
 .rw[decide_eq_true c,BH];by_cases g:(1:Int)<=b.length/\(b.length:Int)<=60
  .have a:T5 q b:=⟨c,by omega⟩;have j:=TI q;rw[decide_eq_true g,BH,LJ,AB,B9 (by unfold lim;omega),ALh (by rw[AM];omega),AB];rw[B9 (by simp only[AM,AH,AN];unfold lim;omega),LJ,AB];have e:[toB (Dx ((LI (pN q++b):Nat):Int) 24),toB (Dx ((LI (pN q++b):Nat):Int) 16),toB (Dx ((LI (pN q++b):Nat):Int) 8),toB ((LI (pN q++b):Nat):Int)]++(pN q++b)=frT q b:=rfl;rw[e];have:=TI ((frT q b).length:Int);have:=RU a;rw[B9 (by unfold On;omega)];unfold frB;rw[if_pos a]
  .rw[decide_eq_false g,BN];unfold frB;rw[if_neg (fun h=>g ⟨by have:=h.2;omega,by have:=h.2;omega⟩)]
 .rw[decide_eq_false c,BN];unfold frB;rw[if_neg (fun h=>c h.1)]
end Lv.P
namespace Lv.P
open Lv Go
theorem F3{α:Type}{l:List α}{i:Int}(a:0<=i)(c:i<l.length):∃x,at? l i=some x:=by
 obtain⟨n,rfl⟩:=Ab a;exact⟨_,A7 (by omega)⟩
theorem iY{x:Int}(a:0<=x)(c:x<1152921504606846976):w64 (Dx (IntKind.u64.wrap (w64 x)) 1)=x / 2:=by
 obtain⟨n,rfl⟩:=Ab a
 grind[Ai,IntKind.wrap,IntKind.signed,IntKind.bits,AhL]
def Ln{α:Type}(n:Nat)(x:AA (List α)):Prop:=∃r,x=some r/\r.length=n
theorem Kj(k:Nat)(h:k<2 ^ 64):k<big:=JG k h
theorem AfA{α:Type}{cmp:α->α->AA Int}(g:∀x y,∃c,cmp x y=some c){l:List α}{a b:Int}(h0:0<=a)(ha:a<=l.length)(hb:b<=l.length)(hl:l.length<1099511627776):Ln l.length (DO cmp l a b):=by
 unfold DO;rw[Ai (by omega) (by omega)];refine K2 (fun x=>x.1.length=l.length/\a+1<=x.2/\x.2<=2*1099511627776) (fun x=>(b-x.2).toNat) (fun r:List α=>r.length=l.length) ?_ big (l,a+1) ⟨rfl,by dsimp only;omega,by dsimp only;omega⟩ (Kj _ (by dsimp only;omega));rintro L ⟨v,i⟩ ⟨E,hi,q⟩ H;dsimp only at E hi q H;unfold Di;dsimp only;rw[BA];split
 .rename_i Q;refine K2 (fun x=>x.1.length=l.length/\a<=x.2/\x.2<=i) (fun x=>(x.2-a).toNat) (fun r:List α=>r.length=l.length) ?_ big (v,i) ⟨E,by dsimp only;omega,by dsimp only;omega⟩ (Kj _ (by dsimp only;omega));rintro L' ⟨u,j⟩ ⟨e,S,B⟩ h;dsimp only at e S B h;have out:∀(u:List α),u.length=l.length->∃r,EK cmp L i u=some r/\r.length=l.length:=by
   intro u e;unfold EK;rw[Ai (by omega) (by omega)];exact H (u,i+1) ⟨e,by dsimp only;omega,by dsimp only;omega⟩ (by dsimp only;omega)
  unfold Dj;dsimp only;rw[BA];split
  .rename_i X;have G:w64 (j-1)=j-1:=Ai (by omega) (by omega);obtain⟨Z,q1⟩:=F3 (l:=u) (i:=j) (by omega) (by omega);obtain⟨J,I⟩:=F3 (l:=u) (i:=j-1) (by omega) (by omega);obtain⟨c,O⟩:=g Z J;obtain⟨x3,Y⟩:=F3 (l:=List.set u j.toNat J) (i:=j-1) (by omega) (by rw[BG];omega);simp only[G,q1,I,AB,O,AR];unfold Dh;rw[BA];split
   .simp only[G,q1,I,Y,AB];exact h (_,j-1) ⟨by simp only[BG];exact e,by dsimp only;omega,by dsimp only;omega⟩ (by dsimp only;omega)
   .rw[AR];exact out u e
  .rw[AR];unfold Dh;rw[BN,AR];exact out u e
 .exact⟨v,rfl,E⟩
theorem APi{α:Type}{cmp:α->α->AA Int}{l:List α}{a b n:Int}(G:0<=a)(H:0<=b)(I:a+n<=l.length)(J:b+n<=l.length)(O:l.length<1099511627776):Ln l.length (ES cmp l a b n):=by
 unfold ES;refine K2 (fun x=>x.1.length=l.length/\0<=x.2) (fun x=>(n-x.2).toNat) (fun r:List α=>r.length=l.length) ?_ big (l,0) ⟨rfl,by dsimp only;omega⟩ (Kj _ (by dsimp only;omega));rintro L ⟨v,i⟩ ⟨c,hi⟩ e;dsimp only at c hi e;unfold Lg;dsimp only;rw[BA];split
 .rename_i q;have g:w64 (a+i)=a+i:=Ai (by omega) (by omega);have h:w64 (b+i)=b+i:=Ai (by omega) (by omega);have j:w64 (i+1)=i+1:=Ai (by omega) (by omega);obtain⟨Q,q1⟩:=F3 (l:=v) (i:=a+i) (by omega) (by omega);obtain⟨E,y⟩:=F3 (l:=v) (i:=b+i) (by omega) (by omega);obtain⟨S,B⟩:=F3 (l:=List.set v (a+i).toNat E) (i:=b+i) (by omega) (by rw[BG];omega);simp only[g,h,j,q1,y,B,AB];exact e (_,i+1) ⟨by simp only[BG];exact c,by dsimp only;omega⟩ (by dsimp only;omega)
 .exact⟨v,rfl,c⟩
theorem AhK{α:Type}{cmp:α->α->AA Int}{l:List α}{a m b:Int}(I:0<=a)(J:a<m)(O:m<b)(Q:b<=l.length)(S:l.length<1099511627776):Ln l.length (IA cmp l a m b):=by
 unfold IA;rw[Ai (n:=m-a) (by omega) (by omega),Ai (n:=b-m) (by omega) (by omega)];refine K2 (fun x=>x.1.length=l.length/\0<x.2.1/\x.2.1<=m-a/\0<x.2.2/\x.2.2<=b-m) (fun x=>(x.2.1+x.2.2).toNat) (fun r:List α=>r.length=l.length) ?_ big (l,m-a,b-m) ⟨rfl,by dsimp only;omega,by dsimp only;omega,by dsimp only;omega,by dsimp only;omega⟩ (Kj _ (by dsimp only;omega));rintro L ⟨v,i,j⟩ ⟨h,hi,y,H,B⟩ E;dsimp only at h hi y H B E;unfold Oy;dsimp only;have q:w64 (m-i)=m-i:=Ai (by omega) (by omega);have G:w64 (w64 (m+j)-i)=m+j-i:=by rw[Ai (n:=m+j) (by omega) (by omega)];exact Ai (by omega) (by omega)
 by_cases e:i=j
 .subst e;rw[show (i != i)=false from by simp,BN,AR];unfold Ox;obtain⟨r,g,c⟩:=APi (cmp:=cmp) (l:=v) (a:=m-i) (b:=m) (n:=i) (by omega) (by omega) (by omega) (by omega) (by omega);dsimp only;rw[q,g,AB];exact⟨r,rfl,c.trans h⟩
 .rw[show (i != j)=true from by simp[e],BH,BA];split
  .obtain⟨r,g,c⟩:=APi (cmp:=cmp) (l:=v) (a:=m-i) (b:=m) (n:=j) (by omega) (by omega) (by omega) (by omega) (by omega);rw[q,g,AB,Ai (n:=i-j) (by omega) (by omega)];exact E (r,i-j,j) ⟨c.trans h,by dsimp only;omega,by dsimp only;omega,by dsimp only;omega,by dsimp only;omega⟩ (by dsimp only;omega)
  .obtain⟨r,g,c⟩:=APi (cmp:=cmp) (l:=v) (a:=m-i) (b:=m+j-i) (n:=i) (by omega) (by omega) (by omega) (by omega) (by omega);rw[q,G,g,AB,Ai (n:=j-i) (by omega) (by omega)];exact E (r,i,j-i) ⟨c.trans h,by dsimp only;omega,by dsimp only;omega,by dsimp only;omega,by dsimp only;omega⟩ (by dsimp only;omega)
def AGj{α:Type}(k:Nat)(r:List α->Int->Int->Int->AA (List α)):Prop:=
 ∀(l:List α) (a m b:Int),0<=a->a<m->m<b->b<=l.length->l.length<1099511627776->b-a<=2 ^ k->Ln l.length (r l a m b)
theorem AXJ{α:Type}{cmp:α->α->AA Int}{k:Nat}{r:List α->Int->Int->Int->AA (List α)}(B:AGj k r){l:List α}{a m b s:Int}(L:0<=a)(O:a<m)(Q:m<b)(S:b<=l.length)(Y:l.length<1099511627776)(X:b-a<=2 ^ (k+1))
 (G:a<=s) (H:s<=(a+b) / 2) (I:s<=m) (J:(a+b) / 2+m-b<=s):Ln l.length (Ie cmp r l a m b s):=by
 have q:w64 (Dx (IntKind.u64.wrap (w64 (a+b))) 1)=(a+b) / 2:=iY (by omega) (by omega);have y:w64 (w64 ((a+b) / 2+m)-s)=(a+b) / 2+m-s:=by rw[Ai (n:=(a+b) / 2+m) (by omega) (by omega)];exact Ai (by omega) (by omega)
 have E:(2:Int) ^ (k+1)=2*2 ^ k:=by rw[Int.pow_succ];omega
 have c:∀v:List α,v.length=l.length->Ln l.length (GR cmp r a m b s v):=by
  intro v h;unfold GR Ii;rw[q,y,BA];split
  .rw[AR,BA];split
   .obtain⟨x,j,e⟩:Ln v.length (r v ((a+b) / 2) ((a+b) / 2+m-s) b):=B v ((a+b) / 2) ((a+b) / 2+m-s) b (by omega) (by omega) (by omega) (by omega) (by omega) (by omega);rw[j,AB];exact⟨x,rfl,e.trans h⟩
   .exact⟨v,rfl,h⟩
  .rw[AR,BN];exact⟨v,rfl,h⟩
 have g:∀v:List α,v.length=l.length->Ln l.length (GQ cmp r a m b s v):=by
  intro v h;unfold GQ Ih;rw[q,BA];split
  .rw[AR,BA];split
   .obtain⟨x,j,e⟩:Ln v.length (r v a s ((a+b) / 2)):=B v a s ((a+b) / 2) (by omega) (by omega) (by omega) (by omega) (by omega) (by omega);rw[j,AB,AR];exact c x (e.trans h)
   .rw[AR];exact c v h
  .rw[AR,BN,AR];exact c v h
 unfold Ie Ig;rw[q,y,BA];split
 .rw[AR,BA];split
  .obtain⟨x,j,e⟩:=AhK (cmp:=cmp) (l:=l) (a:=s) (m:=m) (b:=(a+b) / 2+m-s) (by omega) (by omega) (by omega) (by omega) (by omega);rw[j,AB,AR];exact g x e
  .rw[AR];exact g l rfl
 grind[AR,BN]
theorem AUM{α:Type}{cmp:α->α->AA Int}(g:∀x y,∃c,cmp x y=some c){k:Nat}{r:List α->Int->Int->Int->AA (List α)}(hr:AGj k r):AGj (k+1) (Fj cmp r):=by
 intro l a m b h0 h1 h2 h3 hl hk;show Ln l.length (Fj cmp r l a m b);have e0:w64 (Dx (IntKind.u64.wrap (w64 (a+b))) 1)=(a+b) / 2:=iY (by omega) (by omega);unfold Fj;rw[Ai (n:=m-a) (by omega) (by omega)];by_cases c1:m-a=1
 .rw[show (m-a==1)=true from by simp[c1],BH];refine K2 (fun x=>m<=x.1/\x.1<=x.2/\x.2<=b) (fun x=>(x.2-x.1).toNat) (fun r:List α=>r.length=l.length) ?_ big (m,b) ⟨by dsimp only;omega,by dsimp only;omega,by dsimp only;omega⟩ (Kj _ (by dsimp only;omega));rintro L ⟨i,j⟩ ⟨hi,H,X⟩ h;dsimp only at hi H X h;unfold MT;dsimp only;rw[BA];split
  .have eh:w64 (Dx (IntKind.u64.wrap (w64 (i+j))) 1)=(i+j) / 2:=iY (by omega) (by omega);have e:w64 ((i+j) / 2+1)=(i+j) / 2+1:=Ai (by omega) (by omega);obtain⟨G,q1⟩:=F3 (l:=l) (i:=(i+j) / 2) (by omega) (by omega);obtain⟨J,E⟩:=F3 (l:=l) (i:=a) (by omega) (by omega);obtain⟨c,O⟩:=g G J;simp only[eh,e,q1,E,AB,O];rw[BA];split
   .exact h ((i+j) / 2+1,j) ⟨by dsimp only;omega,by dsimp only;omega,by dsimp only;omega⟩ (by dsimp only;omega)
   .exact h (i,(i+j) / 2) ⟨by dsimp only;omega,by dsimp only;omega,by dsimp only;omega⟩ (by dsimp only;omega)
  .rw[AR];unfold MP;refine K2 (fun x=>x.1.length=l.length/\a<=x.2) (fun x=>(i-1-x.2).toNat) (fun r:List α=>r.length=l.length) ?_ big (l,a) ⟨rfl,by dsimp only;omega⟩ (Kj _ (by dsimp only;omega));rintro L' ⟨u,q⟩ ⟨I,Y⟩ B;dsimp only at I Y B;unfold MU G4;dsimp only;rw[Ai (n:=i-1) (by omega) (by omega),BA];split
   .have Q:w64 (q+1)=q+1:=Ai (by omega) (by omega);obtain⟨G,q1⟩:=F3 (l:=u) (i:=q+1) (by omega) (by omega);obtain⟨J,E⟩:=F3 (l:=u) (i:=q) (by omega) (by omega);obtain⟨x3,q3⟩:=F3 (l:=List.set u q.toNat G) (i:=q+1) (by omega) (by rw[BG];omega);simp only[Q,q1,E,q3,AB];exact B (_,q+1) ⟨by simp only[BG];exact I,by dsimp only;omega⟩ (by dsimp only;omega)
   .rw[AR];exact⟨u,rfl,I⟩
 .rw[show (m-a==1)=false from by simp[c1],BN,AR];unfold MQ;rw[Ai (n:=b-m) (by omega) (by omega)];by_cases c2:b-m=1
  .rw[show (b-m==1)=true from by simp[c2],BH];refine K2 (fun x=>a<=x.1/\x.1<=x.2/\x.2<=m) (fun x=>(x.2-x.1).toNat) (fun r:List α=>r.length=l.length) ?_ big (a,m) ⟨by dsimp only;omega,by dsimp only;omega,by dsimp only;omega⟩ (Kj _ (by dsimp only;omega));rintro L ⟨i,j⟩ ⟨hi,H,X⟩ h;dsimp only at hi H X h;unfold MV;dsimp only;rw[BA];split
   .have eh:w64 (Dx (IntKind.u64.wrap (w64 (i+j))) 1)=(i+j) / 2:=iY (by omega) (by omega);have e:w64 ((i+j) / 2+1)=(i+j) / 2+1:=Ai (by omega) (by omega);obtain⟨G,q1⟩:=F3 (l:=l) (i:=(i+j) / 2) (by omega) (by omega);obtain⟨J,E⟩:=F3 (l:=l) (i:=m) (by omega) (by omega);obtain⟨c,O⟩:=g J G;simp only[eh,e,q1,E,AB,O];cases S:decide (c<0)
    .rw[show (!false)=true from rfl,BH];exact h ((i+j) / 2+1,j) ⟨by dsimp only;omega,by dsimp only;omega,by dsimp only;omega⟩ (by dsimp only;omega)
    .rw[show (!true)=false from rfl,BN];exact h (i,(i+j) / 2) ⟨by dsimp only;omega,by dsimp only;omega,by dsimp only;omega⟩ (by dsimp only;omega)
   .rw[AR];unfold MR;refine K2 (fun x=>x.1.length=l.length/\x.2<=m/\i<=x.2) (fun x=>(x.2-i).toNat) (fun r:List α=>r.length=l.length) ?_ big (l,m) ⟨rfl,by dsimp only;omega,by dsimp only;omega⟩ (Kj _ (by dsimp only;omega));rintro L' ⟨u,q⟩ ⟨I,Y,Z⟩ B;dsimp only at I Y Z B;unfold MW G4;dsimp only;rw[BA];split
    .have Q:w64 (q-1)=q-1:=Ai (by omega) (by omega);obtain⟨G,q1⟩:=F3 (l:=u) (i:=q-1) (by omega) (by omega);obtain⟨J,E⟩:=F3 (l:=u) (i:=q) (by omega) (by omega);obtain⟨x3,q3⟩:=F3 (l:=List.set u q.toNat G) (i:=q-1) (by omega) (by rw[BG];omega);simp only[Q,q1,E,q3,AB];exact B (_,q-1) ⟨by simp only[BG];exact I,by dsimp only;omega,by dsimp only;omega⟩ (by dsimp only;omega)
    .rw[AR];exact⟨u,rfl,I⟩
  .rw[show (b-m==1)=false from by simp[c2],BN,AR];have key:∀s t:Int,a<=s->s<=t->t<=(a+b) / 2->t<=m->(a+b) / 2+m-b<=s->Ln l.length (GP cmp r l a m b (s,t)):=by
    intro s t p1 p2 p3 p4 p5;unfold GP;refine K2 (fun x=>a<=x.1/\x.1<=x.2/\x.2<=(a+b) / 2/\x.2<=m/\(a+b) / 2+m-b<=x.1) (fun x=>(x.2-x.1).toNat) (fun r:List α=>r.length=l.length) ?_ big (s,t) ⟨p1,p2,p3,p4,p5⟩ (Kj _ (by dsimp only;omega));rintro L ⟨i,j⟩ ⟨g1,g2,g3,g4,g5⟩ h;dsimp only at g1 g2 g3 g4 g5 h;unfold Lh;dsimp only;rw[BA];split
    .have eh:w64 (Dx (IntKind.u64.wrap (w64 (i+j))) 1)=(i+j) / 2:=iY (by omega) (by omega);have e:w64 ((i+j) / 2+1)=(i+j) / 2+1:=Ai (by omega) (by omega);have ep:w64 (w64 (w64 ((a+b) / 2+m)-1)-(i+j) / 2)=(a+b) / 2+m-1-(i+j) / 2:=by
      rw[Ai (n:=(a+b) / 2+m) (by omega) (by omega),Ai (n:=(a+b) / 2+m-1) (by omega) (by omega)];exact Ai (by omega) (by omega)
     obtain⟨G,q1⟩:=F3 (l:=l) (i:=(i+j) / 2) (by omega) (by omega);obtain⟨J,E⟩:=F3 (l:=l) (i:=(a+b) / 2+m-1-(i+j) / 2) (by omega) (by omega);obtain⟨c,O⟩:=g J G;simp only[e0,eh,e,ep,q1,E,AB,O];cases S:decide (c<0)
     .rw[show (!false)=true from rfl,BH];exact h ((i+j) / 2+1,j) ⟨by dsimp only;omega,by dsimp only;omega,by dsimp only;omega,by dsimp only;omega,by dsimp only;omega⟩ (by dsimp only;omega)
     .rw[show (!true)=false from rfl,BN];exact h (i,(i+j) / 2) ⟨by dsimp only;omega,by dsimp only;omega,by dsimp only;omega,by dsimp only;omega,by dsimp only;omega⟩ (by dsimp only;omega)
    .rw[AR];exact AXJ hr h0 h1 h2 h3 hl hk g1 (by omega) (by omega) g5
   unfold MS;rw[e0,BA];split
   .rw[AR,Ai (n:=(a+b) / 2+m) (by omega) (by omega),Ai (n:=(a+b) / 2+m-b) (by omega) (by omega)];exact key _ _ (by omega) (by omega) (by omega) (by omega) (by omega)
   .rw[AR];exact key _ _ (by omega) (by omega) (by omega) (by omega) (by omega)
theorem AMs{α:Type}{cmp:α->α->AA Int}(g:∀x y,∃c,cmp x y=some c){mrg:List α->Int->Int->Int->AA (List α)}(Q:∀(l:List α) (a m b:Int),0<=a->a<m->m<b->b<=l.length->l.length<=40->Ln l.length (mrg l a m b)){l:List α}(Y:l.length<=40):Ln l.length (Gb cmp mrg l (l.length:Int)):=by
 unfold Gb;have O:∀v:List α,v.length=l.length->Ln l.length (A4 (GA cmp mrg (l.length:Int)) big (v,20)):=by
  intro v X;refine K2 (fun x=>x.1.length=l.length/\(x.2=20\/x.2=40)) (fun x=>(40-x.2).toNat) (fun r:List α=>r.length=l.length) ?_ big (v,20) ⟨X,.inl rfl⟩ (Kj _ (by dsimp only;omega));rintro L ⟨u,s⟩ ⟨j,S⟩ G;dsimp only at j S G;unfold GA;dsimp only;rw[BA];split
  .have E:s=20:=by omega
   subst E;have out:∀w:List α,w.length=l.length->Ln l.length (H2 cmp mrg L 20 w):=by
    intro w B;unfold H2;rw[Ai (by omega) (by omega)];exact G (w,20*2) ⟨B,.inr rfl⟩ (by dsimp only;omega)
   rw[Ai (n:=2*20) (by omega) (by omega)];refine K2 (fun x=>x.1.length=l.length/\x.2.2=x.2.1+40/\(x.2.1=0\/x.2.1=40)) (fun x=>(40-x.2.1).toNat) (fun r:List α=>r.length=l.length) ?_ big (u,0,2*20) ⟨j,by dsimp only;omega,.inl rfl⟩ (Kj _ (by dsimp only;omega));rintro L' ⟨w,a,b⟩ ⟨B,h,I⟩ H;dsimp only at B h I H;unfold O0;dsimp only;rw[BA];split
   .obtain⟨x,q,e⟩:=Q w a (a+20) b (by omega) (by omega) (by omega) (by omega) (by omega);rw[Ai (n:=a+20) (by omega) (by omega),q,AB,Ai (n:=2*20) (by omega) (by omega),Ai (n:=b+2*20) (by omega) (by omega)];exact H (x,b,b+2*20) ⟨e.trans B,by dsimp only;omega,by dsimp only;omega⟩ (by dsimp only;omega)
   .rw[AR];unfold Oz;dsimp only;rw[Ai (n:=a+20) (by omega) (by omega),BA];split
    .obtain⟨x,q,e⟩:=Q w a (a+20) (l.length:Int) (by omega) (by omega) (by omega) (by omega) (by omega);rw[q,AB,AR];exact out x (e.trans B)
    .rw[AR];exact out w B
  .exact⟨u,rfl,j⟩
 have key:Ln l.length (A4 (F9 cmp mrg (l.length:Int)) big (l,0,20)):=by
  refine K2 (fun x=>x.1.length=l.length/\0<=x.2.1/\x.2.1<=(l.length:Int)/\x.2.2=x.2.1+20) (fun x=>(60-x.2.1).toNat) (fun r:List α=>r.length=l.length) ?_ big (l,0,20) ⟨rfl,by dsimp only;omega,by dsimp only;omega,by dsimp only;omega⟩ (Kj _ (by dsimp only;omega));rintro L ⟨u,a,b⟩ ⟨j,I,J,h⟩ G;dsimp only at j I J h G;unfold F9;dsimp only;rw[BA];split
  .obtain⟨x,q,e⟩:=AfA g (l:=u) (a:=a) (b:=b) (by omega) (by omega) (by omega) (by omega);rw[q,AB,Ai (n:=b+20) (by omega) (by omega)];exact G (x,b,b+20) ⟨e.trans j,by dsimp only;omega,by dsimp only;omega,rfl⟩ (by dsimp only;omega)
  .rw[AR];unfold H0;dsimp only;obtain⟨x,q,e⟩:=AfA g (l:=u) (a:=a) (b:=(l.length:Int)) (by omega) (by omega) (by omega) (by omega);rw[q,AB];exact O x (e.trans j)
 exact key
theorem ADC:∀k,AGj (α:=Ad) k (fun l a m b=>(A8s k).d (l,a,m,b,(),()))
 |0=>by
  intro l a m b c e g j B q
  grind
 |k+1=>AUM (fun x y=>(UA x y).imp fun _ h=>h.1) (ADC k)
theorem ALw{l:List Ad}{a m b:Int}(c:0<=a)(e:a<m)(g:m<b)(h:b<=l.length)(j:l.length<=40):Ln l.length (nB l a m b):=
 ADC 7 l a m b c e g h (by omega) (by have:(2:Int) ^ 7=128:=rfl;omega)
theorem zZ{l:List Ad}(c:l.length<=40):Ln l.length (ph l):=by
 unfold ph AQV;obtain⟨x,e,a⟩:=AMs (fun x y=>(UA x y).imp fun _ h=>h.1) (mrg:=nB) (fun _ _ _ _=>ALw) c;rw[e,AB];exact⟨x,rfl,a⟩
theorem AUL:∀k,AGj (α:=A6) k (fun l a m b=>(A8t k).d (l,a,m,b,(),()))
 |0=>by
  intro l a m b c e g j B q
  grind
 |k+1=>AUM (fun x y=>(PZ x y).imp fun _ h=>h.1) (AUL k)
theorem AVR{l:List A6}{a m b:Int}(c:0<=a)(e:a<m)(g:m<b)(h:b<=l.length)(j:l.length<=40):Ln l.length (AAq l a m b):=
 AUL 7 l a m b c e g h (by omega) (by have:(2:Int) ^ 7=128:=rfl;omega)
theorem AGP{l:List A6}(c:l.length<=40):Ln l.length (AQZ l):=by
 unfold AQZ Nb;obtain⟨x,e,a⟩:=AMs (fun x y=>(PZ x y).imp fun _ h=>h.1) (mrg:=AAq) (fun _ _ _ _=>AVR) c;rw[e,AB];exact⟨x,rfl,a⟩
end Lv.P
