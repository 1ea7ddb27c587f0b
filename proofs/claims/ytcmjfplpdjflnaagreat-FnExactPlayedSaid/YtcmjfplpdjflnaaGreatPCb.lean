/- Plain laws about what the program computes. -/
import Derived.Test.YtcmjfplpdjflnaaGreatPAb
set_option linter.unusedVariables false
set_option linter.unusedSimpArgs false
set_option linter.unusedSectionVars false
open Int renaming eq_ofNat_of_zero_le->As,tdiv_eq_ediv_of_nonneg->GO,tmod_eq_emod_of_nonneg->Dg,toNat_natCast->Ad
open List renaming append_eq_nil_iff->HV,cons_append->EO,drop_drop->C9,drop_eq_getElem_cons->Gb,drop_eq_nil_iff->Fg,drop_eq_nil_of_le->A9,drop_left->EC,drop_zero->Cn,flatMap_cons->CX,getElem?_cons_zero->AK,getElem?_drop->Bo,getElem?_eq_getElem->AT,getElem?_eq_none->DJ,length_append->AP,length_cons->AI,length_nil->AR,length_set->Ba,nil_append->B9
open Nat renaming add_assoc->CR,div_lt_iff_lt_mul->Ck,lt_or_ge->AZ,mod_eq_of_lt->Je,mul_le_mul_right->Ag,pow_le_pow_right->Fk,pow_succ->HC,xor_lt_two_pow->Da,zero_add->Ar
namespace Lv.P
open Go (IntKind BinOp UnOp)
@[simp] theorem aQ(a b c:Int):EE a b c=some (decide (b<=a/\a<=c)):=by
 grind[EE,Z7,BQ,AV]
@[simp] theorem PT(a b c:Int):C3 a b c=some (decide (b<=a/\a<=c)):=by
 grind[C3,Ul,BQ,AV]
def Ey(n:Nat):List UInt8:=if n<128 then [UInt8.ofNat n] else UInt8.ofNat (n % 128+128)::Ey (n / 128)
decreasing_by omega
def pN(n:Int):List UInt8:=if 0<=n/\n<=2147483647 then Ey n.toNat else []
theorem Nn{n:Nat}(h:n<128):Ey n=[UInt8.ofNat n]:=by rw[Ey,AX h]
theorem So{n:Nat}(h:128<=n):Ey n=UInt8.ofNat (n % 128+128)::Ey (n / 128):=by rw[Ey,AU (by omega)]
theorem Hl(n:Nat):0<(Ey n).length:=by rw[Ey];split<;>simp
theorem ZW:∀(k n:Nat),n<128 ^ (k+1)->(Ey n).length<=k+1
 |0,n,h=>by rw[Nn (by simpa using h)];simp|k+1,n,h=>by
  rcases AZ n 128 with a|a
  .rw[Nn a];simp
  .rw[So a];have:=ZW k (n / 128) (by rw[Ck (by omega)];rw[HC]at h;exact h);simp only[AI];omega
theorem Jm{n:Nat}(h:n<=2147483647):(Ey n).length<=5:=ZW 4 n (by omega)
theorem OD(n:Int):(pN n).length<=5:=by unfold pN;split
                                       .exact Jm (by omega)
                                       .simp
theorem AJh{F:(Int×List UInt8->AA (List UInt8))->Int×List UInt8->AA (List UInt8)}
 (hF:∀L n acc,F L (n,acc)=if n<128 then gd (acc.length+1<=lim) (some (acc++[toB n])) else gd (acc.length+1<=lim) (L (w64 (Int.tdiv n 128),acc++[toB (w64 (Int.tmod n 128+128))])))
 {n:Nat} (q:n<=2147483647):A3 F big ((n:Int),[])=some (Ey n):=by
 have:=YS (F:=F) (x:=((n:Int),[])) (fun x=>some (x.2++Ey x.1.toNat)) (fun x=>0<=x.1/\x.1<=2147483647/\x.2.length+(Ey x.1.toNat).length<=5) (fun x=>x.1.toNat) ?_ ?_ ?_
 .simpa using this
 .rintro L ⟨m,acc⟩ ⟨a,j,c⟩ hL;dsimp only at a j c hL ⊢;obtain⟨m,rfl⟩:=As a;rw[hF];simp only[Ad]at c hL ⊢;have hlim:acc.length+1<=lim:=by have:=Hl m;unfold lim;omega
  by_cases h:m<128
  .rw[AX (by omega),B8 hlim,Nn h,AJ1 (by omega)]
  .have e:Int.tdiv (m:Int) 128=((m / 128:Nat):Int):=by
    rw[GO (by omega)];rfl
   have g:Int.tmod (m:Int) 128+128=((m % 128+128:Nat):Int):=by
    rw[Dg (by omega)];omega
   have y:=So (n:=m) (by omega);rw[AU (by omega),B8 hlim,e,g,Ah (by omega) (by omega),Ah (by omega) (by omega),AJ1 (by omega)]
   grind
 .refine⟨by dsimp only;omega,by dsimp only;omega,?_⟩;have:=Jm q;simpa using this
 .dsimp only;omega
@[simp] theorem R8(n:Int):cB n=some (pN n):=by
 unfold cB pN;simp only[aQ,AB,BB,BQ];split
 .rename_i h;obtain⟨m,rfl⟩:=As h.1;refine AJh (fun L n acc=>?_) (by omega);unfold xh xg;simp only[BQ,AV,AI,AR,Ar];by_cases h:n>127
  .grind
  .rw[AU h,AX (by omega)]
 .rfl
@[simp] theorem Jj(n:Int):U5 n=some (pN n):=by
 unfold U5 pN;simp only[PT,AB,BB,BQ];split
 .rename_i h;obtain⟨m,rfl⟩:=As h.1;refine AJh (fun L n acc=>?_) (by omega);unfold xt xq;simp only[BQ,AV,AI,AR,Ar];by_cases h:n>=128
  .grind
  .rw[AU h,AX (by omega)]
 .rfl
def rdN:Nat->Nat->Nat->List UInt8->AA (Nat×Nat)
 |0,_,_,_=>none|_+1,_,_,[]=>none|f+1,k,a,d::l=>
  if d.toNat<128 then (if (0<k/\d.toNat=0)\/2147483647<a+(d.toNat % 128)*2 ^ (7*k) then none else some (a+(d.toNat % 128)*2 ^ (7*k),k+1))
  else rdN f (k+1) (a+(d.toNat % 128)*2 ^ (7*k)) l
def qX(at_:Nat):AA (Nat×Nat)->Int×Int×Bool|some (n,m)=>((n:Int),((at_+m:Nat):Int),true)|none=>(0,0,false)
def gN(b:List UInt8)(i:Int):Int×Int×Bool:=if 0<=i/\i<b.length then qX i.toNat (rdN 5 0 0 (b.drop i.toNat)) else (0,0,false)
theorem ACQ{c s:Nat}(g:c<128)(a:s<=28):kv (c:Int) (s:Int)=((c*2 ^ s:Nat):Int):=by
 have e:c*2 ^ s<2 ^ 35:=by
  have:2 ^ s<=2 ^ 28:=Fk (by omega) a
  calc c*2 ^ s<=127*2 ^ 28:=Nat.mul_le_mul (by omega) this
   _<2 ^ 35:=by decide
 grind[IntKind.bits,W4]
theorem O5{n:Nat}(h:n<2 ^ 63):(BitVec.ofInt IntKind.i64.bits (n:Int)).toNat=n:=by
 simp only[IntKind.bits,BitVec.toNat_ofInt];omega
theorem AWb{a b:Nat}(c:a<2 ^ 63)(e:b<2 ^ 63):orI (a:Int) (b:Int)=((a |||b:Nat):Int):=by
 unfold orI;rw[BitVec.toNat_or,O5 c,O5 e];have:a |||b<2 ^ 63:=Nat.or_lt_two_pow c e;rw[W4 (by omega) (by omega)]
theorem AYm{a c s:Nat}(e:a<2 ^ s):a |||c*2 ^ s=a+c*2 ^ s:=by
 have:=Nat.two_pow_add_eq_or_of_lt e c;rw[Nat.or_comm,Nat.mul_comm,<-this,Nat.add_comm]
theorem ABv:∀(k n:Nat),n<128 ^ (k+1)->((Ey n).length=k+1↔k=0\/128 ^ k<=n)
 |0,n,h=>by rw[Nn (by simpa using h)];simp|k+1,n,h=>by
  rcases AZ n 128 with a|a
  .grind[Nn]
  .rw[So a];have c:n / 128<128 ^ (k+1):=by rw[Ck (by omega)];rw[HC]at h;exact h
   have:=ABv k (n / 128) c;have e:128 ^ k<=n / 128↔128 ^ (k+1)<=n:=by rw[Nat.le_div_iff_mul_le (by omega),HC]
   grind
theorem AYq(k:Nat):(2:Nat) ^ (7*k)=128 ^ k:=by rw[Nat.pow_mul]
theorem digit{a k c:Nat}(j:k<5)(g:a<128 ^ k)(h:c<128):a+c*2 ^ (7*k)<128 ^ (k+1)/\a+c*2 ^ (7*k)<2 ^ 35:=by
 rw[AYq];have e:a+c*128 ^ k<128 ^ (k+1):=by
  have:c*128 ^ k<=127*128 ^ k:=Ag _ (by omega);rw[HC];omega
 refine⟨e,Nat.lt_of_lt_of_le e ?_⟩
 calc 128 ^ (k+1)<=128 ^ 5:=Fk (by omega) (by omega)
  _=2 ^ 35:=by decide
theorem PN{b:List UInt8}(I:b.length<2 ^ 62){i:Nat}(hi:i<2 ^ 62):∀(f k a n:Nat),f+k=5->f<n->a<128 ^ k ->
 A3 (Oe b i) n ((a:Int),(k:Int))=some (qX i (rdN f k a (b.drop (i+k))))
 |0,k,a,n,Q,X,g=>by
  obtain⟨n,rfl⟩:∃m,n=m+1:=⟨n-1,by omega⟩;rw[Dh];unfold Oe zB;simp only[BQ,AV];rw[AU (by omega)];rfl
 |f+1,k,a,n,Q,X,g=>by
  obtain⟨n,rfl⟩:∃m,n=m+1:=⟨n-1,by omega⟩;rw[Dh];generalize hL:A3 (Oe b i) n=L;unfold Oe;simp only[BQ,AV];rw[AX (by omega),AU (by omega)];unfold VJ VK;simp only[BQ,AV,BK,B7,ge_iff_le,beq_iff_eq,decide_eq_true_eq];rw[Ah (n:=(b.length:Int)-k) (by omega) (by omega)];cases e:b.drop (i+k) with
  |nil=>
   have:b.length<=i+k:=Fg.1 e;rw[AX (by omega)];rfl
  |cons d l=>
   have S:i+k<b.length:=by
    rcases AZ (i+k) b.length with h|h
    .exact h
    .rw[A9 h]at e;cases e
   have J:b[i+k]?=some d:=by
    have:=Bo (xs:=b) (i:=i+k) (j:=0);rw[e]at this;simpa using this.symm
   have q:b.drop (i+(k+1))=l:=by
    rw[<-CR,<-C9,e];rfl
   rw[AU (by omega),Ah (n:=(i:Int)+k) (by omega) (by omega),show (i:Int)+k=((i+k:Nat):Int) from by push_cast;rfl,Es,J,AB];have O:d.toNat<256:=d.toNat_lt;have G:w64 (7*(k:Int))=((7*k:Nat):Int):=by rw[Ah (by omega) (by omega)];push_cast;rfl
   have ed:w64 ((d.toNat:Nat):Int)=(d.toNat:Int):=Ah (by omega) (by omega);have em:Int.tmod (d.toNat:Int) 128=((d.toNat % 128:Nat):Int):=by rw[Dg (by omega)];rfl
   obtain⟨B,Y⟩:=digit (a:=a) (k:=k) (c:=d.toNat % 128) (by omega) g (by omega);have y:orI (a:Int) (kv ((d.toNat % 128:Nat):Int) ((7*k:Nat):Int))=((a+(d.toNat % 128)*2 ^ (7*k):Nat):Int):=by
    rw[ACQ (by omega) (by omega)];rw[AWb (by have:=Fk (n:=128) (by omega) (show k<=5 by omega);omega) (by omega),AYm (by rw[AYq];exact g)]
   rw[G,B8 (by omega),ed,em,y];simp only[rdN];have E:w64 ((k:Int)+1)=((k+1:Nat):Int):=Ah (by omega) (by omega);by_cases H:d.toNat<128
   .grind[qX,Prod.mk.injEq,Ah]
   .rw[AU (by omega),AU H,E,<-hL,PN I hi f (k+1) _ n (by omega) (by omega) B,q]
theorem Ou{b:List UInt8}(Q:b.length<2 ^ 62){i:Nat}(hi:i<2 ^ 62):∀(f k a n:Nat),f+k=5->f<n->a<128 ^ k ->
 A3 (Q7 b i) n ((a:Int),(k:Int))=some (qX i (rdN f k a (b.drop (i+k))))
 |0,k,a,n,Y,hn,G=>by
  obtain⟨n,rfl⟩:∃m,n=m+1:=⟨n-1,by omega⟩;rw[Dh];unfold Q7 VM dV;simp only[BQ,AV];rw[AU (by omega)];rfl
 |f+1,k,a,n,Y,hn,G=>by
  obtain⟨n,rfl⟩:∃m,n=m+1:=⟨n-1,by omega⟩;rw[Dh];generalize hL:A3 (Q7 b i) n=L;unfold Q7;simp only[BQ,AV];rw[AX (by omega)];unfold VM dV;simp only[BQ,AV,B7,bne_iff_ne,Jj,AB,decide_eq_true_eq];rw[Ah (n:=(i:Int)+k) (by omega) (by omega),show (i:Int)+k=((i+k:Nat):Int) from by push_cast;rfl];cases e:b.drop (i+k) with
  |nil=>
   have:b.length<=i+k:=Fg.1 e;rw[AU (by omega)];rfl
  |cons d l=>
   have hlt:i+k<b.length:=by
    rcases AZ (i+k) b.length with h|h
    .exact h
    .rw[A9 h]at e;cases e
   have S:b[i+k]?=some d:=by
    have:=Bo (xs:=b) (i:=i+k) (j:=0);rw[e]at this;simpa using this.symm
   have y:b.drop (i+(k+1))=l:=by
    rw[<-CR,<-C9,e];rfl
   rw[AX (by omega),Es,S,AB];have X:d.toNat<256:=d.toNat_lt;have J:w64 (7*(k:Int))=((7*k:Nat):Int):=by rw[Ah (by omega) (by omega)];push_cast;rfl
   have ed:w64 ((d.toNat:Nat):Int)=(d.toNat:Int):=Ah (by omega) (by omega);have em:Int.tmod (d.toNat:Int) 128=((d.toNat % 128:Nat):Int):=by rw[Dg (by omega)];rfl
   obtain⟨q,hs2⟩:=digit (a:=a) (k:=k) (c:=d.toNat % 128) (by omega) G (by omega);have B:w64 ((a:Int)+(kv ((d.toNat % 128:Nat):Int) ((7*k:Nat):Int)))=((a+(d.toNat % 128)*2 ^ (7*k):Nat):Int):=by
    rw[ACQ (by omega) (by omega),Ah (by omega) (by omega)];push_cast;rfl
   rw[J,B8 (by omega),ed,em,B];simp only[rdN,Jj,AB];have I:w64 ((k:Int)+1)=((k+1:Nat):Int):=Ah (by omega) (by omega);rw[I];by_cases E:d.toNat<128
   .rw[AX (by omega),AX E];have g:128 ^ k<=a+(d.toNat % 128)*2 ^ (7*k)↔d.toNat≠0:=by
     rw[AYq];constructor
     .rintro h O;rw[O]at h;simp at h;omega
     .intro h;have:1*128 ^ k<=d.toNat % 128*128 ^ k:=Ag _ (by omega);omega
    have H:((pN ((a+(d.toNat % 128)*2 ^ (7*k):Nat):Int)).length:Int)≠((k+1:Nat):Int)↔(0<k/\d.toNat=0)\/2147483647<a+(d.toNat % 128)*2 ^ (7*k):=by
     unfold pN;split
     .rename_i Z;rw[Ad];have:=ABv k _ q;rw[g]at this;rw[Ne,Int.ofNat_inj,this];omega
     .simp only[AR];omega
    grind[qX,Ah]
   .rw[AU (by omega),AU E,<-hL,Ou Q hi f (k+1) _ n (by omega) (by omega) q,y]
theorem Nq{b:List UInt8}(c:b.length<2 ^ 62)(i:Int)(hi:i<2 ^ 62):dS b i=some (gN b i):=by
 unfold dS gN;by_cases a:0<=i
 .obtain⟨j,rfl⟩:=As a;have:=PN c (i:=j) (by omega) 5 0 0 big (by omega) (Il _ (by omega)) (by omega);refine Eq.trans this ?_;simp only[Ad,Nat.add_zero];split
  .rfl
  .rw[A9 (by omega)];rfl
 .obtain⟨n,e⟩:=Qt 0 (by omega)
  grind[Dh,Oe,VJ,BQ,AV]
theorem Ni{b:List UInt8}(c:b.length<2 ^ 62)(i:Int):dU b i=some (gN b i):=by
 unfold dU gN;simp only[PT,AB,BB,BQ];rw[Ah (by omega) (by omega)];by_cases a:0<=i/\i<b.length
 .obtain⟨j,rfl⟩:=As a.1;rw[AX (by omega),AX a];have:=Ou c (i:=j) (by omega) 5 0 0 big (by omega) (Il _ (by omega)) (by omega)
  grind
 grind
theorem AXl{n:Nat}(h:n<256):(UInt8.ofNat n).toNat=n:=by simp;omega
theorem tx:∀(f k a n:Nat) (l:List UInt8),(Ey n).length<=f->(k=0\/n≠0)->a+n*2 ^ (7*k)<=2147483647->rdN f k a (Ey n++l)=some (a+n*2 ^ (7*k),k+(Ey n).length)
 |0,k,a,n,l,h,_,_=>by have:=Hl n;omega|f+1,k,a,n,l,h,q,j=>by
  rcases AZ n 128 with c|c
  .rw[Nn c];simp only[EO,B9,rdN,AI,AR];rw[AXl (by omega),AX c,Je c,AU (by omega)]
  .rw[So c]at h ⊢;simp only[EO,rdN,AI]at h ⊢;rw[AXl (by omega),AU (by omega)];have e:(n % 128+128) % 128=n % 128:=by omega
   have g:a+n % 128*2 ^ (7*k)+n / 128*2 ^ (7*(k+1))=a+n*2 ^ (7*k):=by
    grind[Nat.mod_add_div]
   rw[e,tx f (k+1) _ (n / 128) l (by omega) (by omega) (by rw[g];exact j),g];congr 2;omega
theorem aY:∀(f k a:Nat) (l:List UInt8) (N m:Nat),rdN f k a l=some (N,m)->∃n l',l=Ey n++l'/\N=a+n*2 ^ (7*k)/\m=k+(Ey n).length/\(k=0\/n≠0)/\N<=2147483647
 |0,k,a,l,N,m,h=>by cases h
 |f+1,k,a,[],N,m,h=>by cases h
 |f+1,k,a,d::l,N,m,h=>by
  have y:d.toNat<256:=d.toNat_lt;simp only[rdN]at h;split at h
  .rename_i e;split at h
   .cases h
   .rename_i B;cases h;refine⟨d.toNat,l,?_,?_,?_,by omega,by omega⟩
    .rw[Nn e];simp
    .rw[Je e]
    .rw[Nn e];rfl
  .rename_i e;obtain⟨n,l',g,E,j,G,q⟩:=aY f (k+1) _ l N m h;have H:n≠0:=by omega
   have c:128<=d.toNat % 128+128*n:=by omega
   refine⟨d.toNat % 128+128*n,l',?_,?_,?_,.inr (by omega),q⟩
   .rw[So c,show (d.toNat % 128+128*n) % 128+128=d.toNat by omega,show (d.toNat % 128+128*n) / 128=n by omega,g];simp
   .grind
   .rw[So c,show (d.toNat % 128+128*n) / 128=n by omega,j];simp only[AI];omega
def rdL:Nat->List UInt8->AA (List Int)
 |0,_=>none|f+1,[]=>some []|f+1,l=>match rdN 5 0 0 l with|some (n,m)=>(rdL f (l.drop m)).map ((n:Int)::·)|none=>none
def okN(n:Int):Prop:=0<=n/\n<=2147483647
def pL(l:List Int):List UInt8:=l.flatMap pN
theorem ATG{n:Int}(h:okN n):pN n=Ey n.toNat:=by unfold pN;rw[AX (show 0<=n/\n<=2147483647 from h)]
theorem tj{n:Int}(h:okN n):0<(pN n).length:=by rw[ATG h];exact Hl _
theorem AYu{n:Int}(h:okN n)(l:List UInt8):rdN 5 0 0 (pN n++l)=some (n.toNat,(pN n).length):=by
 rw[ATG h,tx 5 0 0 n.toNat l (Jm (by have:=h.2;omega)) (.inl rfl) (by have:=h.2;simp;omega)];simp
theorem AFZ:∀(l:List Int) (f:Nat),(∀n∈l,okN n)->(pL l).length<f->rdL f (pL l)=some l
 | [],f,_,h=>by
  obtain⟨f,rfl⟩:∃g,f=g+1:=⟨f-1,by omega⟩;rfl
 |n::l,f,j,h=>by
  obtain⟨f,rfl⟩:∃g,f=g+1:=⟨f-1,by omega⟩;have a:=j n (by simp);have q:=tj a;have e:pL (n::l)=pN n++pL l:=by simp[pL]
  rw[e]at h ⊢;have c:pN n++pL l≠[]:=by intro h;rw[HV]at h;rw[h.1]at q;simp at q
  rw[rdL.eq_3 _ _ (by simpa using c),AYu a];simp only[EC];rw[AFZ l f (fun m y=>j m (by simp[y])) (by rw[AP]at h;omega)];simp only[Option.map_some,Int.toNat_of_nonneg a.1]
theorem Wa:∀(f:Nat) (s:List UInt8) (l:List Int),rdL f s=some l->s=pL l/\∀n∈l,okN n
 |0,s,l,h=>by cases h
 |f+1,[],l,h=>by cases h;exact⟨rfl,by simp⟩
 |f+1,d::s,l,h=>by
  rw[rdL.eq_3 _ _ (by simp)]at h;split at h
  .rename_i n m B;obtain⟨H,l',c,e,g,_,G⟩:=aY _ _ _ _ _ _ B;simp only[Nat.mul_zero,Nat.pow_zero,Nat.mul_one,Ar]at e g;subst e g;rw[Option.map_eq_some_iff]at h;obtain⟨E,j,rfl⟩:=h;rw[c,EC]at j;obtain⟨q,y⟩:=Wa f l' E j;refine⟨?_,?_⟩
   .rw[c,q];simp only[pL,CX];rw[ATG ⟨by omega,by omega⟩];simp
   .intro x a;rcases List.mem_cons.1 a with rfl|a
    .exact⟨by omega,by omega⟩
    .exact y x a
  .cases h
def AFY:AA (List Int)->List Int×Bool|some l=>(l,true)|none=>([],false)
theorem jd{b:List UInt8}(y:b.length<=1048576){G:List UInt8->Int->AA (Int×Int×Bool)}(hG:∀i:Int,i<2 ^ 62->G b i=some (gN b i))
 {F:(List Int×Int->AA (List Int×Bool))->List Int×Int->AA (List Int×Bool)}
 (hF:∀L acc i,F L (acc,i)=if i<(b.length:Int) then bd (G b i) fun x=>br (!x.2.2) (some ([],false)) (gd (acc.length+1<=lim) (L (acc++[x.1],x.2.1))) else some (acc,true)) :
 ∀(f i n:Nat) (acc:List Int),b.length<f+i->f<=n->acc.length<=i->i<=b.length->A3 F n (acc,(i:Int))=some (match rdL f (b.drop i) with|some l=>(acc++l,true)|none=>([],false))
 |0,i,n,acc,e,g,j,q=>by omega|f+1,i,n,acc,e,g,j,q=>by
  obtain⟨n,rfl⟩:∃m,n=m+1:=⟨n-1,by omega⟩;rw[Dh,hF];by_cases hi:i<b.length
  .rw[AX (by omega),hG _ (by omega),AB];unfold gN;rw[AX (by omega),Ad];have c:b.drop i≠[]:=by intro h;rw[Fg]at h;omega
   rw[rdL.eq_3 _ _ (by simpa using c)];cases B:rdN 5 0 0 (b.drop i) with
   |none=>rfl|some p=>
    obtain⟨v,m⟩:=p;obtain⟨H,l',E,J,O,_,_⟩:=aY _ _ _ _ _ _ B;have I:0<m:=by have:=Hl H;omega
    have a:i+m<=b.length:=by
     have:=congrArg List.length E;rw[List.length_drop,AP]at this;omega
    simp only[qX,BB,BK];rw[B8 (by unfold lim;omega),jd y hG hF f (i+m) n (acc++[(v:Int)]) (by omega) (by omega) (by rw[AP];simp;omega) a,<-C9]
    grind
  .rw[AU (by omega),A9 (by omega)];simp[rdL]
theorem Ws{b:List UInt8}(a:b.length<=1048576):zC b=some (AFY (rdL (b.length+1) b)):=by
 unfold zC;have:=jd a (G:=dS) (F:=dT b) (fun i hi=>Nq (by omega) i hi) (fun L acc i=>by unfold dT zD;simp only[BQ,AV];rfl) (b.length+1) 0 big [] (by omega) (by have:=Nw;omega) (by simp) (by omega);refine Eq.trans this ?_;simp only[Cn,B9];cases rdL (b.length+1) b<;>rfl
theorem WA{b:List UInt8}(a:b.length<=1048576):zE b=some (AFY (rdL (b.length+1) b)):=by
 unfold zE;have:=jd a (G:=dU) (F:=dW b) (fun i hi=>Ni (by omega) i) (fun L acc i=>by unfold dW zF;simp only[BQ,AV];rfl) (b.length+1) 0 big [] (by omega) (by have:=Nw;omega) (by simp) (by omega);refine Eq.trans this ?_;simp only[Cn,B9];cases rdL (b.length+1) b<;>rfl
theorem jS{l:List Int}(h:l.length<=10000000){G:Int->AA (List UInt8)}(hG:∀n,G n=some (pN n))
 {F:(List UInt8×Int->AA (List UInt8))->List UInt8×Int->AA (List UInt8)}
 (hF:∀L acc i,F L (acc,i)=if i<(l.length:Int) then bd (at? l i) fun x=>bd (G x) fun y=>gd (acc.length+y.length<=lim) (L (acc++y,w64 (i+1))) else some acc) :
 ∀(f i n:Nat) (acc:List UInt8),l.length<f+i->f<=n->acc.length<=5*i->i<=l.length->A3 F n (acc,(i:Int))=some (acc++pL (l.drop i))
 |0,i,n,acc,a,c,e,g=>by omega|f+1,i,n,acc,a,c,e,g=>by
  obtain⟨n,rfl⟩:∃m,n=m+1:=⟨n-1,by omega⟩;rw[Dh,hF];by_cases hi:i<l.length
  .rw[AX (by omega),Es,AT hi,AB,hG,AB];have:=OD l[i];rw[B8 (by unfold lim;omega),Ah (by omega) (by omega)];have:=jS h hG hF f (i+1) n (acc++pN l[i]) (by omega) (by omega) (by rw[AP];omega) hi;refine Eq.trans this ?_;rw[Gb hi];simp only[pL,CX,List.append_assoc]
  .rw[AU (by omega),A9 (by omega)];simp[pL]
theorem Wr{l:List Int}(a:l.length<=10000000):Y4 l=some (pL l):=by
 unfold Y4;have:=jS a (G:=cB) (F:=cC l) R8 (fun L acc i=>by unfold cC xi;simp only[BQ,AV]) (l.length+1) 0 big [] (by omega) (by have:=Nw;omega) (by simp) (by omega);simpa using this
theorem WB{l:List Int}(a:l.length<=10000000):xu l=some (pL l):=by
 unfold xu;have:=jS a (G:=U5) (F:=cK l) Jj (fun L acc i=>by unfold cK xv;simp only[BQ,AV]) (l.length+1) 0 big [] (by omega) (by have:=Nw;omega) (by simp) (by omega);simpa using this
def fld(n:Int):Bool:=decide (0<=n/\n<=9999)
def HR(q:Bp):Bool:=
 if q.Kind=1 then fld q.Id&&fld q.AY&&decide (-1<=q.Bi/\q.Bi<=9999)&&fld q.BA&&fld q.Co
 else if q.Kind=2\/q.Kind=4\/q.Kind=5\/q.Kind=7 then fld q.Id&&(q.AY==0&&(q.Bi==0&&(q.BA==0&&q.Co==0)))
 else if q.Kind=3 then fld q.AY&&fld q.BA&&(q.Id==0&&(q.Bi==0&&q.Co==0))
 else if q.Kind=6 then q.Id==0&&(q.AY==0&&(q.Bi==0&&(q.BA==0&&q.Co==0)))
 else false
def EY(q:Bp):List Int:=
 if q.Kind=1 then [q.Kind,q.Id,q.AY,q.Bi+1,q.BA,q.Co]
 else if q.Kind=3 then [q.Kind,q.AY,q.BA]
 else if q.Kind=6 then [q.Kind]
 else [q.Kind,q.Id]
def Gn(q:Bp):List UInt8:=if HR q then pL (EY q) else []
@[simp] theorem AFk(n:Int):Qb n=some (fld n):=by unfold Qb fld;simp
@[simp] theorem AEk(n:Int):Qc n=some (fld n):=by unfold Qc fld;simp
theorem AFj(q:Bp):Uk q=some (HR q):=by
 obtain⟨k,a,b,c,d,e⟩:=q;unfold Uk Gf OU Gf HR;simp only[B7,AV,AFk,AB,aQ,beq_iff_eq]
 grind
theorem AEj(q:Bp):Uw q=some (HR q):=by
 obtain⟨k,a,b,c,d,e⟩:=q;unfold Uw Gg Ob Gg HR;simp only[B7,AV,AEk,AB,PT,beq_iff_eq]
 grind
theorem Ib{q:Bp}(h:HR q=true):(q.Kind=1/\(0<=q.Id/\q.Id<=9999)/\(0<=q.AY/\q.AY<=9999)/\(-1<=q.Bi/\q.Bi<=9999)/\(0<=q.BA/\q.BA<=9999)/\(0<=q.Co/\q.Co<=9999)) \/
 ((q.Kind=2\/q.Kind=4\/q.Kind=5\/q.Kind=7)/\(0<=q.Id/\q.Id<=9999)/\q.AY=0/\q.Bi=0/\q.BA=0/\q.Co=0) \/
 (q.Kind=3/\(0<=q.AY/\q.AY<=9999)/\(0<=q.BA/\q.BA<=9999)/\q.Id=0/\q.Bi=0/\q.Co=0) \/
 (q.Kind=6/\q.Id=0/\q.AY=0/\q.Bi=0/\q.BA=0/\q.Co=0):=by
 unfold HR fld at h;split at h
 .grind
 split at h
 .grind
 split at h
 .grind
 grind
theorem jg{q:Bp}(h:HR q=true):∀n∈EY q,okN n:=by
 grind[Ib,EY,okN]
theorem ZX(q:Bp):0<(EY q).length/\(EY q).length<=6:=by
 grind[EY]
theorem TV{q:Bp}:yU q=some (Gn q):=by
 unfold yU Gn;rw[AFj,AB,BB,B7]
 grind[HR,EY,B7,Ah,Wr,AB]
theorem TL{q:Bp}:y8 q=some (Gn q):=by
 grind[y8,Q6,Gn,AEj,AB,B7,HR,EY,AV,B8,lim,Ah,WB]
theorem Ru{n:Int}{l:List Int}(h:okN n):pL (n::l)≠[]:=by
 intro a;have:=tj h;simp only[pL,CX,HV]at a
 grind
theorem AJr{q:Bp}(h:HR q=true):Gn q≠[]:=by
 grind[Gn,jg,EY,Ru]
theorem ATF:∀l:List Int,(pL l).length<=5*l.length
 | []=>by simp[pL]|n::l=>by
  have c:=OD n;have a:=ATF l;simp only[pL,CX,AP,AI]at a ⊢;omega
theorem AUZ(q:Bp):(Gn q).length<=30:=by
 grind[Gn,ATF,ZX]
theorem PH{q:Bp}(h:HR q=true)(f:Nat)(a:(Gn q).length<f):rdL f (Gn q)=some (EY q):=by
 grind[Gn,AFZ,jg]
noncomputable def NI(s:List UInt8):Bp×Bool:=open Classical in if h:∃q,HR q=true/\Gn q=s then (h.choose,true) else (⟨0,0,0,0,0,0⟩,false)
theorem ACB{q q':Bp}(h:HR q=true)(a:HR q'=true)(c:EY q=EY q'):q=q':=by
 grind[Bp,EY,Ib]
theorem AUY{q q':Bp}(h:HR q=true)(a:HR q'=true)(e:Gn q=Gn q'):q=q':=by
 have c:=PH h ((Gn q).length+1) (by omega)
 grind[PH,ACB]
theorem AUa{q:Bp}(h:HR q=true):NI (Gn q)=(q,true):=by
 unfold NI;have a:∃q',HR q'=true/\Gn q'=Gn q:=⟨q,h,rfl⟩
 grind[AUY]
theorem K2{s:List UInt8}(h:∀q,HR q=true->Gn q≠s):NI s=(⟨0,0,0,0,0,0⟩,false):=by
 grind[NI]
theorem pE{γ:Type}(a b:List UInt8)(x y:AA γ):br (a != b) x y=if a=b then y else x:=by
 unfold br
 grind[grind]
theorem Zr(s:List UInt8)(q:Bp):Of s q=if Gn q=s then some (q,true) else some (⟨0,0,0,0,0,0⟩,false):=by
 unfold Of;rw[TV,AB,pE]
theorem Zo(s:List UInt8)(q:Bp):Og s q=if Gn q=[]\/Gn q≠s then some (⟨0,0,0,0,0,0⟩,false) else some (q,true):=by
 grind[Og,dX,TL,AB,AV,BK,Gn,B7]
theorem Jp{s:List UInt8}{q:Bp}(a:s≠[])(h:∀q',HR q'=true->Gn q'=s->q'=q):(if Gn q=s then some (q,true) else some (⟨0,0,0,0,0,0⟩,false))=some (NI s):=by
 grind[Gn,HR,AUa,K2]
theorem nq{s:List UInt8}{f:Nat}(h:rdL f s=none)(a:s.length<f):∀q,HR q=true->Gn q≠s:=by
 grind[PH]
theorem Wo{s:List UInt8}(S:s.length<=1048576):mb s=some (NI s):=by
 unfold mb;rw[BQ];by_cases H:(s.length:Int)>60
 .rw[AX H,K2];rintro q _ rfl;have:=AUZ q;omega
 rw[AU H,Ws S,AB];cases L:rdL (s.length+1) s with
 |none=>
  simp only[AFY,BB,BL,AV];unfold VL;rw[BK,K2 (nq L (by omega))]
 |some l=>
  obtain⟨J,I⟩:=Wa _ _ _ L;simp only[AFY,BB,BK,AV];unfold VL;cases l with
  |nil=>
   simp only[AR];show br true _ _=_;rw[BK,K2];rintro q j B;exact AJr j (B.trans J)
  |cons n l=>
   have E:s≠[]:=by rw[J];exact Ru (I n (by simp))
   have O:((((n::l).length:Nat):Int)==0)=false:=by rw[AI,beq_eq_false_iff_ne];omega
   have G:∀q,HR q=true->Gn q=s->EY q=n::l:=by
    rintro q j rfl;have:=PH j ((Gn q).length+1) (by omega);rw[L]at this;simpa using this.symm
   simp only[O,BL];simp only[Ub,AK,AB,Zr,AV,B7,beq_iff_eq];have okq:∀m∈n::l,0<=m/\m<=2147483647:=fun m Q=>I m Q
   match l,G,okq with
   | [],G,_=>
    rw[AU (by simp),AU (by simp),AU (by simp)];refine Jp E fun q j B=>?_
    obtain⟨k,a,b,c,d,e⟩:=q;have g:=G _ j B;unfold EY at g;rcases Ib j with h|h|h|h<;>dsimp only at h g
    .rw[AX h.1]at g;simp at g
    .rw[AU (by omega),AU (by omega),AU (by omega)]at g;simp at g
    .rw[AU (by omega),AX h.1]at g;simp at g
    .rw[AU (by omega),AU (by omega),AX h.1]at g;simp at g;simp;omega
   | [x],G,okq=>
    rw[AX (by simp)];simp only[show at? [n,x] 1=some x from rfl,AB];refine Jp E fun q j B=>?_
    obtain⟨k,a,b,c,d,e⟩:=q;have g:=G _ j B;unfold EY at g;rcases Ib j with h|h|h|h<;>dsimp only at h g
    .rw[AX h.1]at g;simp at g
    .rw[AU (by omega),AU (by omega),AU (by omega)]at g;simp at g;simp;omega
    .rw[AU (by omega),AX h.1]at g;simp at g
    .rw[AU (by omega),AU (by omega),AX h.1]at g;simp at g
   | [x,y],G,okq=>
    rw[AU (by simp),AX (by simp)];simp only[show at? [n,x,y] 1=some x from rfl,show at? [n,x,y] 2=some y from rfl,AB];refine Jp E fun q j B=>?_
    obtain⟨k,a,b,c,d,e⟩:=q;have g:=G _ j B;unfold EY at g;rcases Ib j with h|h|h|h<;>dsimp only at h g
    .rw[AX h.1]at g;simp at g
    .rw[AU (by omega),AU (by omega),AU (by omega)]at g;simp at g
    .rw[AU (by omega),AX h.1]at g;simp at g;simp;omega
    .rw[AU (by omega),AU (by omega),AX h.1]at g;simp at g
   | [x,y,z,u,v],G,okq=>
    have X:=okq z (by simp);rw[AU (by simp),AU (by simp),AX (by simp)];simp only[show at? [n,x,y,z,u,v] 1=some x from rfl,show at? [n,x,y,z,u,v] 2=some y from rfl,show at? [n,x,y,z,u,v] 3=some z from rfl,show at? [n,x,y,z,u,v] 4=some u from rfl,show at? [n,x,y,z,u,v] 5=some v from rfl,AB];rw[Ah (by omega) (by omega)];refine Jp E fun q j B=>?_
    obtain⟨k,a,b,c,d,e⟩:=q;have g:=G _ j B;unfold EY at g;rcases Ib j with h|h|h|h<;>dsimp only at h g
    .rw[AX h.1]at g;simp at g;simp;omega
    .rw[AU (by omega),AU (by omega),AU (by omega)]at g;simp at g
    .rw[AU (by omega),AX h.1]at g;simp at g
    .rw[AU (by omega),AU (by omega),AX h.1]at g;simp at g
   | [x,y,z],G,okq=>
    rw[AU (by simp),AU (by simp),AU (by simp)];refine Jp E fun q j B=>?_
    have g:=congrArg List.length (G _ j B)
    have:(EY q).length≠4:=by unfold EY;repeat' split
                             all_goals simp
    simp at g;omega
   | [x,y,z,u],G,okq=>
    rw[AU (by simp),AU (by simp),AU (by simp)];refine Jp E fun q j B=>?_
    have g:=congrArg List.length (G _ j B)
    have:(EY q).length≠5:=by unfold EY;repeat' split
                             all_goals simp
    simp at g;omega
   |x::y::z::u::v::w::r,G,okq=>
    rw[AU (by simp;omega),AU (by simp;omega),AU (by simp;omega)];refine Jp E fun q j B=>?_
    have g:=congrArg List.length (G _ j B);have:=(ZX q).2;simp at g;omega
theorem WC{s:List UInt8}{q:Bp}(a:s≠[])(h:∀q',HR q'=true->Gn q'=s->q'=q):(if Gn q=[]\/Gn q≠s then some (⟨0,0,0,0,0,0⟩,false) else some (q,true))=some (NI s):=by
 grind[Jp,Gn]
theorem sY{s:List UInt8}(hs:s.length<=1048576):zG s=some (NI s):=by
 unfold zG;rw[WA hs,AB];cases Z:rdL (s.length+1) s with
 |none=>
  simp only[AFY,BB,BL,AV];unfold VN;rw[BK,K2 (nq Z (by omega))]
 |some l=>
  obtain⟨I,H⟩:=Wa _ _ _ Z;simp only[AFY,BB,BK,AV];unfold VN;cases l with
  |nil=>
   simp only[AR];show br true _ _=_;rw[BK,K2];rintro q j G;exact AJr j (G.trans I)
  |cons n l=>
   have B:s≠[]:=by rw[I];exact Ru (H n (by simp))
   have hb:((((n::l).length:Nat):Int)==0)=false:=by rw[AI,beq_eq_false_iff_ne];omega
   have hq:∀q,HR q=true->Gn q=s->EY q=n::l:=by
    rintro q j rfl;have:=PH j ((Gn q).length+1) (by omega);rw[Z]at this;simpa using this.symm
   have Y:(n::l).length<=s.length:=by
    rw[I];have:∀l:List Int,(∀m∈l,okN m)->l.length<=(pL l).length:=by
     intro l
     induction l with
     |nil=>simp|cons m l ih=>
      intro h;have j:=tj (h m (by simp));have G:=ih fun x J=>h x (by simp[J])
      simp only[pL,CX,AP,AI]at G ⊢;omega
    exact this _ H
   rw[AI]at Y;have e1:Int.toNat 1=1:=rfl;have e5:Int.toNat 5=5:=rfl;have ed:List.take ((n::l).length-1) (List.drop 1 (n::l))=l:=by simp
   simp only[hb,BL];simp only[Ub,AK,AB,Zo,AV,B7,beq_iff_eq,e1,e5,ed];rw[B8 (by simp;omega),B8 (by simp;omega),B8 (by unfold lim;omega)];have okq:∀m∈n::l,0<=m/\m<=2147483647:=fun m hm=>H m hm
   have J:∀(i:Nat),i<5->∃x,(l++List.replicate 5 (0:Int))[i]?=some x/\(0<=x/\x<=2147483647)/\(∀y,l[i]?=some y->x=y):=by
    intro i hi;have O:i<(l++List.replicate 5 (0:Int)).length:=by rw[AP,List.length_replicate];omega
    refine⟨_,AT O,?_,?_⟩
    .have:(l++List.replicate 5 (0:Int))[i]∈l++List.replicate 5 (0:Int):=List.getElem_mem O;rw[List.mem_append,List.mem_replicate]at this;rcases this with h|h
     .exact okq _ (List.mem_cons_of_mem _ h)
     .omega
    .intro y hy;have X:=(List.getElem?_eq_some_iff.1 hy);obtain⟨j,G⟩:=X;rw[List.getElem_append_left j,G]
   obtain⟨S,hx0,b0,i0⟩:=J 0 (by omega);obtain⟨x1,hx1,b1,i1⟩:=J 1 (by omega);obtain⟨x2,hx2,b2,i2⟩:=J 2 (by omega);obtain⟨x3,hx3,b3,i3⟩:=J 3 (by omega);obtain⟨x4,hx4,b4,i4⟩:=J 4 (by omega);have a0:(l++List.replicate 5 (0:Int))[0]?=some S:=hx0;have a1:at? (l++List.replicate 5 (0:Int)) 1=some x1:=by rw[show (1:Int)=((1:Nat):Int) from rfl,Es];exact hx1
   have a2:at? (l++List.replicate 5 (0:Int)) 2=some x2:=by rw[show (2:Int)=((2:Nat):Int) from rfl,Es];exact hx2
   have a3:at? (l++List.replicate 5 (0:Int)) 3=some x3:=by rw[show (3:Int)=((3:Nat):Int) from rfl,Es];exact hx3
   have a4:at? (l++List.replicate 5 (0:Int)) 4=some x4:=by rw[show (4:Int)=((4:Nat):Int) from rfl,Es];exact hx4
   simp only[a0,a1,a2,a3,a4,AB];rw[Ah (n:=x2-1) (by omega) (by omega)];have shape:∀q,HR q=true->Gn q=s->q=(if n=1 then ⟨n,S,x1,x2-1,x3,x4⟩ else if n=3 then ⟨n,0,S,0,x1,0⟩ else if n=6 then ⟨n,0,0,0,0,0⟩ else ⟨n,S,0,0,0,0⟩):=by
    intro q j G;obtain⟨k,a,b,c,d,e⟩:=q;have g:=hq _ j G;unfold EY at g;rcases Ib j with h|h|h|h<;>dsimp only at h g
    .rw[AX h.1]at g;obtain⟨rfl,rfl⟩:=List.cons.inj g;rw[AX h.1];have j0:=i0 _ rfl;have j1:=i1 _ rfl;have j2:=i2 _ rfl;have j3:=i3 _ rfl;have j4:=i4 _ rfl;simp;omega
    .rw[AU (by omega),AU (by omega),AU (by omega)]at g;obtain⟨rfl,rfl⟩:=List.cons.inj g;rw[AU (by omega),AU (by omega),AU (by omega)];have j0:=i0 _ rfl;simp;omega
    .rw[AU (by omega),AX h.1]at g;obtain⟨rfl,rfl⟩:=List.cons.inj g;rw[AU (by omega),AX h.1];have j0:=i0 _ rfl;have j1:=i1 _ rfl;simp;omega
    .rw[AU (by omega),AU (by omega),AX h.1]at g;obtain⟨rfl,rfl⟩:=List.cons.inj g;rw[AU (by omega),AU (by omega),AX h.1];simp;omega
   by_cases E:n=1
   .rw[AX E];simp only[AX E]at shape;exact WC B shape
   by_cases L:n=3
   .rw[AU E,AX L];simp only[AU E,AX L]at shape;exact WC B shape
   by_cases Q:n=6
   .rw[AU E,AU L,AX Q];simp only[AU E,AU L,AX Q]at shape;exact WC B shape
   .rw[AU E,AU L,AU Q];simp only[AU E,AU L,AU Q]at shape;exact WC B shape
@[simp] theorem AYG(q:Bp):b7 q q=some true:=by
 unfold b7;simp[B7]
def XF(v:Nat):Nat:=if v % 2=1 then (v / 2) ^^^ 3988292384 else v / 2
def Uf:Nat->Nat->Nat|0,v=>v|k+1,v=>Uf k (XF v)
def SO:Nat->List UInt8->Nat|v,[]=>v|v,x::l=>SO (Uf 8 (v ^^^ x.toNat)) l
def J0(s:List UInt8):Nat:=SO 4294967295 s ^^^ 4294967295
theorem lT{v:Nat}(h:v<2 ^ 32):XF v<2 ^ 32:=by
 unfold XF;split
 .exact Da (by omega) (by omega)
 .omega
theorem Tj:∀k {v:Nat},v<2 ^ 32->Uf k v<2 ^ 32|0,_,h=>h|k+1,_,h=>Tj k (lT h)
theorem Tl:∀(l:List UInt8) {v:Nat},v<2 ^ 32->SO v l<2 ^ 32| [],_,h=>h|x::l,v,h=>Tl l (Tj 8 (Da h (by have:=x.toNat_lt;omega)))
theorem PV{a b:Nat}(c:a<2 ^ 63)(e:b<2 ^ 63):Zu (a:Int) (b:Int)=((a ^^^ b:Nat):Int):=by
 unfold Zu;rw[BitVec.toNat_xor,O5 c,O5 e];have:a ^^^ b<2 ^ 63:=Da c e;rw[W4 (by omega) (by omega)]
theorem ANO{a b:Nat}(c:a<2 ^ 63)(e:b<2 ^ 63):AXt (a:Int) (b:Int)=((a &&& b:Nat):Int):=by
 grind[O5,Nat.and_le_left,W4]
theorem AZ1(a:Nat):Dy (a:Int) 1=((a / 2:Nat):Int):=by
 grind[IntKind.bits]
theorem bE{γ:Type}{F:(Int×Int->AA γ)->Int×Int->AA γ}{G:Int->AA γ}
 (hF:∀L (v k:Nat),v<2 ^ 32->k<=8->F L ((v:Int),(k:Int))=if k<8 then L (((XF v:Nat):Int),((k+1:Nat):Int)) else G (v:Int)) :
 ∀(m k v n:Nat),k+m=8->m<n->v<2 ^ 32->A3 F n ((v:Int),(k:Int))=G ((Uf m v:Nat):Int)
 |0,k,v,0,_,h,_=>by omega|0,k,v,n+1,c,_,a=>by rw[Dh,hF _ _ _ a (by omega),AU (by omega)];rfl|m+1,k,v,0,_,h,_=>by omega|m+1,k,v,n+1,c,h,a=>by
  rw[Dh,hF _ _ _ a (by omega),AX (by omega),bE hF m (k+1) _ n (by omega) (by omega) (lT a)];rfl
theorem bD{s:List UInt8}{γ:Type}{F:(Int×Int->AA γ)->Int×Int->AA γ}{G:Int->AA γ}(e:s.length<2 ^ 62)
 (hF:∀L (v i:Nat),v<2 ^ 32->i<=s.length->F L ((v:Int),(i:Int))=match s[i]? with|none=>G (v:Int)|some x=>L (((Uf 8 (v ^^^ x.toNat):Nat):Int),((i+1:Nat):Int))) :
 ∀(m i v n:Nat),i+m=s.length->m<n->v<2 ^ 32->A3 F n ((v:Int),(i:Int))=G ((SO v (s.drop i):Nat):Int)
 |0,i,v,0,_,h,_=>by omega|0,i,v,n+1,hi,_,c=>by
  rw[Dh,hF _ _ _ c (by omega),DJ (by omega),A9 (by omega)];rfl
 |m+1,i,v,0,_,h,_=>by omega|m+1,i,v,n+1,hi,h,c=>by
  have a:i<s.length:=by omega
  rw[Dh,hF _ _ _ c (by omega),AT a];dsimp only;rw[bD e hF m (i+1) _ n (by omega) (by omega) (Tj 8 (Da c (by have:=s[i].toNat_lt;omega))),Gb a];rfl
theorem ACU{s:List UInt8}(B:s.length<2 ^ 62):xj s=some ((J0 s:Nat):Int):=by
 unfold xj;have:=bD (F:=cE s) (G:=fun v=>some (Zu v 4294967295)) B ?_ s.length 0 4294967295 big (by omega) (Il _ (by omega)) (by omega)
 .refine Eq.trans this ?_;have e:=PV (a:=SO 4294967295 s) (b:=4294967295) (by have:=Tl s (v:=4294967295) (by omega);omega) (by omega);show some (Zu _ ((4294967295:Nat):Int))=_;rw[Cn,e];rfl
 .intro L v i j hi;unfold cE xl;simp only[BQ,AV,Es];by_cases h:i<s.length
  .rw[AX (by omega),AT h,AB];dsimp only;have H:=s[i].toNat_lt;rw[Ah (by omega) (by omega),PV (by omega) (by omega)];have:=bE (F:=cF L (i:Int)) (G:=fun v=>L (v,((i+1:Nat):Int))) ?_ 8 0 (v ^^^ s[i].toNat) big (by omega) (Il _ (by omega)) (Da j (by omega))
   .exact this
   .intro L5 v k j E;unfold cF cD xk;simp only[BQ,AV];by_cases g:k<8
    .rw[AX (by omega),AX g];have q:Int.tmod (v:Int) 2=((v % 2:Nat):Int):=by rw[Dg (by omega)];omega
     have y:Int.tdiv (v:Int) 2=((v / 2:Nat):Int):=by rw[GO (by omega)];omega
     rw[q,y,Ah (by omega) (by omega),Ah (n:=(k:Int)+1) (by omega) (by omega),B7,show (3988292384:Int)=((3988292384:Nat):Int) from rfl,PV (by omega) (by omega)];unfold XF;by_cases c:v % 2=1
     .rw[AX (by rw[c];rfl),AX c];rfl
     .rw[AU (by rw[beq_iff_eq];omega),AU c];rfl
    .rw[AU (by omega),AU g,Ah (by omega) (by omega)];rfl
  .rw[AU (by omega),DJ (by omega)]
theorem ABI{s:List UInt8}(y:s.length<2 ^ 62):xw s=some ((J0 s:Nat):Int):=by
 unfold xw;have:=bD (F:=cM s) (G:=fun v=>some (Zu v 4294967295)) y ?_ s.length 0 4294967295 big (by omega) (Il _ (by omega)) (by omega)
 .refine Eq.trans this ?_;have e:=PV (a:=SO 4294967295 s) (b:=4294967295) (by have:=Tl s (v:=4294967295) (by omega);omega) (by omega);show some (Zu _ ((4294967295:Nat):Int))=_;rw[Cn,e];rfl
 .intro L v i j hi;unfold cM xy;simp only[BQ,AV,Es];by_cases h:i<s.length
  .rw[AX (by omega),AT h,AB];dsimp only;have E:=s[i].toNat_lt;rw[Ah (by omega) (by omega),PV (by omega) (by omega)];have:=bE (F:=cO L (i:Int)) (G:=fun v=>L (v,((i+1:Nat):Int))) ?_ 8 0 (v ^^^ s[i].toNat) big (by omega) (Il _ (by omega)) (Da j (by omega))
   .exact this
   .intro L5 v k j B;unfold cO cL xx;simp only[BQ,AV];by_cases g:k<8
    .rw[AX (by omega),AX g];have q:AXt (v:Int) 1=((v % 2:Nat):Int):=by
      rw[show (1:Int)=((1:Nat):Int) from rfl,ANO (by omega) (by omega),Nat.and_one_is_mod]
     rw[q,AZ1,Ah (n:=(k:Int)+1) (by omega) (by omega),B7,show (3988292384:Int)=((3988292384:Nat):Int) from rfl,PV (by omega) (by omega)];unfold XF;by_cases c:v % 2=1
     .rw[AX (by rw[c];rfl),AX c];rfl
     .rw[AU (by rw[beq_iff_eq];omega),AU c];rfl
    .rw[AU (by omega),AU g,Ah (by omega) (by omega)];rfl
  .rw[AU (by omega),DJ (by omega)]
def four(c:Int):List UInt8:=[toB (Dy c 24),toB (Dy c 16),toB (Dy c 8),toB c]
theorem Hr(c:Int):(four c).length=4:=rfl
def Pq(q:Int)(b:List UInt8):Prop:=(1<=q/\q<=1000000)/\(1<=b.length/\b.length<=60)
instance (q:Int) (b:List UInt8):Decidable (Pq q b):=by unfold Pq;infer_instance
def frT(q:Int)(b:List UInt8):List UInt8:=four ((J0 (pN q++b):Nat):Int)++(pN q++b)
def frB(q:Int)(b:List UInt8):List UInt8:=if Pq q b then pN ((frT q b).length:Int)++frT q b else []
theorem Nf{q:Int}{b:List UInt8}(h:Pq q b):6<=(frT q b).length/\(frT q b).length<=69:=by
 have a:=OD q;have c:0<(pN q).length:=by unfold pN;rw[AX (by have:=h.1;omega)];exact Hl _
 have:=h.2;simp only[frT,AP,Hr];omega
theorem V2{q:Int}{b:List UInt8}(h:Pq q b):7<=(frB q b).length/\(frB q b).length<=74:=by
 have:=Nf h;have a:=OD ((frT q b).length:Int);have c:0<(pN ((frT q b).length:Int)).length:=by unfold pN;rw[AX (by omega)];exact Hl _
 unfold frB;rw[AX h,AP];omega
theorem AOf{q:Int}{b:List UInt8}(h:frB q b≠[]):Pq q b:=by
 grind[frB]
theorem QO(q:Int)(b:List UInt8):yV q b=some (frB q b):=by
 unfold yV cZ;simp only[aQ,AB,AV,BB,BK];by_cases c:1<=q/\q<=1000000
 .rw[decide_eq_true c,BK];by_cases g:(1:Int)<=b.length/\(b.length:Int)<=60
  .have a:Pq q b:=⟨c,by omega⟩;have j:=OD q;rw[decide_eq_true g,BK,R8,AB,B8 (by unfold OE;omega),ACU (by rw[AP];omega),AB];unfold xm;rw[AB,B8 (by simp only[AP,AI,AR];unfold OE;omega),R8,AB];have e:[toB (Dy ((J0 (pN q++b):Nat):Int) 24),toB (Dy ((J0 (pN q++b):Nat):Int) 16),toB (Dy ((J0 (pN q++b):Nat):Int) 8),toB ((J0 (pN q++b):Nat):Int)]++(pN q++b)=frT q b:=rfl;rw[e];have:=OD ((frT q b).length:Int);have:=Nf a;rw[B8 (by unfold OE;omega)];unfold frB;rw[AX a]
  .rw[decide_eq_false g,BL];unfold frB;rw[AU (fun h=>g ⟨by have:=h.2;omega,by have:=h.2;omega⟩)]
 .rw[decide_eq_false c,BL];unfold frB;rw[AU (fun h=>c h.1)]
theorem P3(q:Int)(b:List UInt8):y9 q b=some (frB q b):=by
 unfold y9 dP;simp only[PT,AB,AV,BB,BK];by_cases c:1<=q/\q<=1000000
 .rw[decide_eq_true c,BK];by_cases g:(1:Int)<=b.length/\(b.length:Int)<=60
  .have a:Pq q b:=⟨c,by omega⟩;have j:=OD q;rw[decide_eq_true g,BK,Jj,AB,B8 (by unfold lim;omega),ABI (by rw[AP];omega),AB];rw[B8 (by simp only[AP,AI,AR];unfold lim;omega),Jj,AB];have e:[toB (Dy ((J0 (pN q++b):Nat):Int) 24),toB (Dy ((J0 (pN q++b):Nat):Int) 16),toB (Dy ((J0 (pN q++b):Nat):Int) 8),toB ((J0 (pN q++b):Nat):Int)]++(pN q++b)=frT q b:=rfl;rw[e];have:=OD ((frT q b).length:Int);have:=Nf a;rw[B8 (by unfold OE;omega)];unfold frB;rw[AX a]
  .rw[decide_eq_false g,BL];unfold frB;rw[AU (fun h=>g ⟨by have:=h.2;omega,by have:=h.2;omega⟩)]
 .rw[decide_eq_false c,BL];unfold frB;rw[AU (fun h=>c h.1)]
end Lv.P
namespace Lv.P
open Lv Go
theorem H2{α:Type}{l:List α}{i:Int}(a:0<=i)(c:i<l.length):∃x,at? l i=some x:=by
 obtain⟨n,rfl⟩:=As a;exact⟨_,BJ (by omega)⟩
theorem V3{x:Int}(a:0<=x)(c:x<1152921504606846976):w64 (Dy (IntKind.u64.wrap (w64 x)) 1)=x / 2:=by
 obtain⟨n,rfl⟩:=As a
 grind[Ah,IntKind.wrap,IntKind.signed,IntKind.bits,AZ1]
def Ln{α:Type}(n:Nat)(x:AA (List α)):Prop:=∃r,x=some r/\r.length=n
theorem JO(k:Nat)(h:k<2 ^ 64):k<big:=Il k h
theorem AXd{α:Type}{cmp:α->α->AA Int}(g:∀x y,∃c,cmp x y=some c){l:List α}{a b:Int}(h0:0<=a)(ha:a<=l.length)(hb:b<=l.length)(hl:l.length<1099511627776):Ln l.length (DD cmp l a b):=by
 unfold DD;rw[Ah (by omega) (by omega)];refine J9 (fun x=>x.1.length=l.length/\a+1<=x.2/\x.2<=2*1099511627776) (fun x=>(b-x.2).toNat) (fun r:List α=>r.length=l.length) ?_ big (l,a+1) ⟨rfl,by dsimp only;omega,by dsimp only;omega⟩ (JO _ (by dsimp only;omega));rintro L ⟨v,i⟩ ⟨E,hi,q⟩ H;dsimp only at E hi q H;unfold DU;dsimp only;rw[BQ];split
 .rename_i Q;refine J9 (fun x=>x.1.length=l.length/\a<=x.2/\x.2<=i) (fun x=>(x.2-a).toNat) (fun r:List α=>r.length=l.length) ?_ big (v,i) ⟨E,by dsimp only;omega,by dsimp only;omega⟩ (JO _ (by dsimp only;omega));rintro L' ⟨u,j⟩ ⟨e,S,B⟩ h;dsimp only at e S B h;have out:∀(u:List α),u.length=l.length->∃r,Dx cmp L i u=some r/\r.length=l.length:=by
   intro u e;unfold Dx;rw[Ah (by omega) (by omega)];exact H (u,i+1) ⟨e,by dsimp only;omega,by dsimp only;omega⟩ (by dsimp only;omega)
  unfold DV;dsimp only;rw[BQ];split
  .rename_i X;have G:w64 (j-1)=j-1:=Ah (by omega) (by omega);obtain⟨Z,q1⟩:=H2 (l:=u) (i:=j) (by omega) (by omega);obtain⟨J,I⟩:=H2 (l:=u) (i:=j-1) (by omega) (by omega);obtain⟨c,O⟩:=g Z J;obtain⟨x3,Y⟩:=H2 (l:=List.set u j.toNat J) (i:=j-1) (by omega) (by rw[Ba];omega);simp only[G,q1,I,AB,O,AV];unfold DT;rw[BQ];split
   .simp only[G,q1,I,Y,AB];exact h (_,j-1) ⟨by simp only[Ba];exact e,by dsimp only;omega,by dsimp only;omega⟩ (by dsimp only;omega)
   .rw[AV];exact out u e
  .rw[AV];unfold DT;rw[BL,AV];exact out u e
 .exact⟨v,rfl,E⟩
theorem AFn{α:Type}{cmp:α->α->AA Int}{l:List α}{a b n:Int}(G:0<=a)(H:0<=b)(I:a+n<=l.length)(J:b+n<=l.length)(O:l.length<1099511627776):Ln l.length (D7 cmp l a b n):=by
 unfold D7;refine J9 (fun x=>x.1.length=l.length/\0<=x.2) (fun x=>(n-x.2).toNat) (fun r:List α=>r.length=l.length) ?_ big (l,0) ⟨rfl,by dsimp only;omega⟩ (JO _ (by dsimp only;omega));rintro L ⟨v,i⟩ ⟨c,hi⟩ e;dsimp only at c hi e;unfold J2;dsimp only;rw[BQ];split
 .rename_i q;have g:w64 (a+i)=a+i:=Ah (by omega) (by omega);have h:w64 (b+i)=b+i:=Ah (by omega) (by omega);have j:w64 (i+1)=i+1:=Ah (by omega) (by omega);obtain⟨Q,q1⟩:=H2 (l:=v) (i:=a+i) (by omega) (by omega);obtain⟨E,y⟩:=H2 (l:=v) (i:=b+i) (by omega) (by omega);obtain⟨S,B⟩:=H2 (l:=List.set v (a+i).toNat E) (i:=b+i) (by omega) (by rw[Ba];omega);simp only[g,h,j,q1,y,B,AB];exact e (_,i+1) ⟨by simp only[Ba];exact c,by dsimp only;omega⟩ (by dsimp only;omega)
 .exact⟨v,rfl,c⟩
theorem AZz{α:Type}{cmp:α->α->AA Int}{l:List α}{a m b:Int}(I:0<=a)(J:a<m)(O:m<b)(Q:b<=l.length)(S:l.length<1099511627776):Ln l.length (HO cmp l a m b):=by
 unfold HO;rw[Ah (n:=m-a) (by omega) (by omega),Ah (n:=b-m) (by omega) (by omega)];refine J9 (fun x=>x.1.length=l.length/\0<x.2.1/\x.2.1<=m-a/\0<x.2.2/\x.2.2<=b-m) (fun x=>(x.2.1+x.2.2).toNat) (fun r:List α=>r.length=l.length) ?_ big (l,m-a,b-m) ⟨rfl,by dsimp only;omega,by dsimp only;omega,by dsimp only;omega,by dsimp only;omega⟩ (JO _ (by dsimp only;omega));rintro L ⟨v,i,j⟩ ⟨h,hi,y,H,B⟩ E;dsimp only at h hi y H B E;unfold MA;dsimp only;have q:w64 (m-i)=m-i:=Ah (by omega) (by omega);have G:w64 (w64 (m+j)-i)=m+j-i:=by rw[Ah (n:=m+j) (by omega) (by omega)];exact Ah (by omega) (by omega)
 by_cases e:i=j
 .subst e;rw[show (i != i)=false from by simp,BL,AV];unfold L7;obtain⟨r,g,c⟩:=AFn (cmp:=cmp) (l:=v) (a:=m-i) (b:=m) (n:=i) (by omega) (by omega) (by omega) (by omega) (by omega);dsimp only;rw[q,g,AB];exact⟨r,rfl,c.trans h⟩
 .rw[show (i != j)=true from by simp[e],BK,BQ];split
  .obtain⟨r,g,c⟩:=AFn (cmp:=cmp) (l:=v) (a:=m-i) (b:=m) (n:=j) (by omega) (by omega) (by omega) (by omega) (by omega);rw[q,g,AB,Ah (n:=i-j) (by omega) (by omega)];exact E (r,i-j,j) ⟨c.trans h,by dsimp only;omega,by dsimp only;omega,by dsimp only;omega,by dsimp only;omega⟩ (by dsimp only;omega)
  .obtain⟨r,g,c⟩:=AFn (cmp:=cmp) (l:=v) (a:=m-i) (b:=m+j-i) (n:=i) (by omega) (by omega) (by omega) (by omega) (by omega);rw[q,G,g,AB,Ah (n:=j-i) (by omega) (by omega)];exact E (r,i,j-i) ⟨c.trans h,by dsimp only;omega,by dsimp only;omega,by dsimp only;omega,by dsimp only;omega⟩ (by dsimp only;omega)
def vG{α:Type}(k:Nat)(r:List α->Int->Int->Int->AA (List α)):Prop:=
 ∀(l:List α) (a m b:Int),0<=a->a<m->m<b->b<=l.length->l.length<1099511627776->b-a<=2 ^ k->Ln l.length (r l a m b)
theorem AM6{α:Type}{cmp:α->α->AA Int}{k:Nat}{r:List α->Int->Int->Int->AA (List α)}(B:vG k r){l:List α}{a m b s:Int}(L:0<=a)(O:a<m)(Q:m<b)(S:b<=l.length)(Y:l.length<1099511627776)(X:b-a<=2 ^ (k+1))
 (G:a<=s) (H:s<=(a+b) / 2) (I:s<=m) (J:(a+b) / 2+m-b<=s):Ln l.length (Hf cmp r l a m b s):=by
 have q:w64 (Dy (IntKind.u64.wrap (w64 (a+b))) 1)=(a+b) / 2:=V3 (by omega) (by omega);have y:w64 (w64 ((a+b) / 2+m)-s)=(a+b) / 2+m-s:=by rw[Ah (n:=(a+b) / 2+m) (by omega) (by omega)];exact Ah (by omega) (by omega)
 have E:(2:Int) ^ (k+1)=2*2 ^ k:=by rw[Int.pow_succ];omega
 have c:∀v:List α,v.length=l.length->Ln l.length (Fo cmp r a m b s v):=by
  intro v h;unfold Fo Hi;rw[q,y,BQ];split
  .rw[AV,BQ];split
   .obtain⟨x,j,e⟩:Ln v.length (r v ((a+b) / 2) ((a+b) / 2+m-s) b):=B v ((a+b) / 2) ((a+b) / 2+m-s) b (by omega) (by omega) (by omega) (by omega) (by omega) (by omega);rw[j,AB];exact⟨x,rfl,e.trans h⟩
   .exact⟨v,rfl,h⟩
  .rw[AV,BL];exact⟨v,rfl,h⟩
 have g:∀v:List α,v.length=l.length->Ln l.length (Fm cmp r a m b s v):=by
  intro v h;unfold Fm Hh;rw[q,BQ];split
  .rw[AV,BQ];split
   .obtain⟨x,j,e⟩:Ln v.length (r v a s ((a+b) / 2)):=B v a s ((a+b) / 2) (by omega) (by omega) (by omega) (by omega) (by omega) (by omega);rw[j,AB,AV];exact c x (e.trans h)
   .rw[AV];exact c v h
  .rw[AV,BL,AV];exact c v h
 unfold Hf Hg;rw[q,y,BQ];split
 .rw[AV,BQ];split
  .obtain⟨x,j,e⟩:=AZz (cmp:=cmp) (l:=l) (a:=s) (m:=m) (b:=(a+b) / 2+m-s) (by omega) (by omega) (by omega) (by omega) (by omega);rw[j,AB,AV];exact g x e
  .rw[AV];exact g l rfl
 grind[AV,BL]
theorem AJz{α:Type}{cmp:α->α->AA Int}(g:∀x y,∃c,cmp x y=some c){k:Nat}{r:List α->Int->Int->Int->AA (List α)}(hr:vG k r):vG (k+1) (FK cmp r):=by
 intro l a m b h0 h1 h2 h3 hl hk;show Ln l.length (FK cmp r l a m b);have e0:w64 (Dy (IntKind.u64.wrap (w64 (a+b))) 1)=(a+b) / 2:=V3 (by omega) (by omega);unfold FK;rw[Ah (n:=m-a) (by omega) (by omega)];by_cases c1:m-a=1
 .rw[show (m-a==1)=true from by simp[c1],BK];refine J9 (fun x=>m<=x.1/\x.1<=x.2/\x.2<=b) (fun x=>(x.2-x.1).toNat) (fun r:List α=>r.length=l.length) ?_ big (m,b) ⟨by dsimp only;omega,by dsimp only;omega,by dsimp only;omega⟩ (JO _ (by dsimp only;omega));rintro L ⟨i,j⟩ ⟨hi,H,X⟩ h;dsimp only at hi H X h;unfold KW;dsimp only;rw[BQ];split
  .have eh:w64 (Dy (IntKind.u64.wrap (w64 (i+j))) 1)=(i+j) / 2:=V3 (by omega) (by omega);have e:w64 ((i+j) / 2+1)=(i+j) / 2+1:=Ah (by omega) (by omega);obtain⟨G,q1⟩:=H2 (l:=l) (i:=(i+j) / 2) (by omega) (by omega);obtain⟨J,E⟩:=H2 (l:=l) (i:=a) (by omega) (by omega);obtain⟨c,O⟩:=g G J;simp only[eh,e,q1,E,AB,O];rw[BQ];split
   .exact h ((i+j) / 2+1,j) ⟨by dsimp only;omega,by dsimp only;omega,by dsimp only;omega⟩ (by dsimp only;omega)
   .exact h (i,(i+j) / 2) ⟨by dsimp only;omega,by dsimp only;omega,by dsimp only;omega⟩ (by dsimp only;omega)
  .rw[AV];unfold KS;refine J9 (fun x=>x.1.length=l.length/\a<=x.2) (fun x=>(i-1-x.2).toNat) (fun r:List α=>r.length=l.length) ?_ big (l,a) ⟨rfl,by dsimp only;omega⟩ (JO _ (by dsimp only;omega));rintro L' ⟨u,q⟩ ⟨I,Y⟩ B;dsimp only at I Y B;unfold KX GJ;dsimp only;rw[Ah (n:=i-1) (by omega) (by omega),BQ];split
   .have Q:w64 (q+1)=q+1:=Ah (by omega) (by omega);obtain⟨G,q1⟩:=H2 (l:=u) (i:=q+1) (by omega) (by omega);obtain⟨J,E⟩:=H2 (l:=u) (i:=q) (by omega) (by omega);obtain⟨x3,q3⟩:=H2 (l:=List.set u q.toNat G) (i:=q+1) (by omega) (by rw[Ba];omega);simp only[Q,q1,E,q3,AB];exact B (_,q+1) ⟨by simp only[Ba];exact I,by dsimp only;omega⟩ (by dsimp only;omega)
   .rw[AV];exact⟨u,rfl,I⟩
 .rw[show (m-a==1)=false from by simp[c1],BL,AV];unfold KT;rw[Ah (n:=b-m) (by omega) (by omega)];by_cases c2:b-m=1
  .rw[show (b-m==1)=true from by simp[c2],BK];refine J9 (fun x=>a<=x.1/\x.1<=x.2/\x.2<=m) (fun x=>(x.2-x.1).toNat) (fun r:List α=>r.length=l.length) ?_ big (a,m) ⟨by dsimp only;omega,by dsimp only;omega,by dsimp only;omega⟩ (JO _ (by dsimp only;omega));rintro L ⟨i,j⟩ ⟨hi,H,X⟩ h;dsimp only at hi H X h;unfold KY;dsimp only;rw[BQ];split
   .have eh:w64 (Dy (IntKind.u64.wrap (w64 (i+j))) 1)=(i+j) / 2:=V3 (by omega) (by omega);have e:w64 ((i+j) / 2+1)=(i+j) / 2+1:=Ah (by omega) (by omega);obtain⟨G,q1⟩:=H2 (l:=l) (i:=(i+j) / 2) (by omega) (by omega);obtain⟨J,E⟩:=H2 (l:=l) (i:=m) (by omega) (by omega);obtain⟨c,O⟩:=g J G;simp only[eh,e,q1,E,AB,O];cases S:decide (c<0)
    .rw[show (!false)=true from rfl,BK];exact h ((i+j) / 2+1,j) ⟨by dsimp only;omega,by dsimp only;omega,by dsimp only;omega⟩ (by dsimp only;omega)
    .rw[show (!true)=false from rfl,BL];exact h (i,(i+j) / 2) ⟨by dsimp only;omega,by dsimp only;omega,by dsimp only;omega⟩ (by dsimp only;omega)
   .rw[AV];unfold KU;refine J9 (fun x=>x.1.length=l.length/\x.2<=m/\i<=x.2) (fun x=>(x.2-i).toNat) (fun r:List α=>r.length=l.length) ?_ big (l,m) ⟨rfl,by dsimp only;omega,by dsimp only;omega⟩ (JO _ (by dsimp only;omega));rintro L' ⟨u,q⟩ ⟨I,Y,Z⟩ B;dsimp only at I Y Z B;unfold KZ GJ;dsimp only;rw[BQ];split
    .have Q:w64 (q-1)=q-1:=Ah (by omega) (by omega);obtain⟨G,q1⟩:=H2 (l:=u) (i:=q-1) (by omega) (by omega);obtain⟨J,E⟩:=H2 (l:=u) (i:=q) (by omega) (by omega);obtain⟨x3,q3⟩:=H2 (l:=List.set u q.toNat G) (i:=q-1) (by omega) (by rw[Ba];omega);simp only[Q,q1,E,q3,AB];exact B (_,q-1) ⟨by simp only[Ba];exact I,by dsimp only;omega,by dsimp only;omega⟩ (by dsimp only;omega)
    .rw[AV];exact⟨u,rfl,I⟩
  .rw[show (b-m==1)=false from by simp[c2],BL,AV];have key:∀s t:Int,a<=s->s<=t->t<=(a+b) / 2->t<=m->(a+b) / 2+m-b<=s->Ln l.length (Fl cmp r l a m b (s,t)):=by
    intro s t p1 p2 p3 p4 p5;unfold Fl;refine J9 (fun x=>a<=x.1/\x.1<=x.2/\x.2<=(a+b) / 2/\x.2<=m/\(a+b) / 2+m-b<=x.1) (fun x=>(x.2-x.1).toNat) (fun r:List α=>r.length=l.length) ?_ big (s,t) ⟨p1,p2,p3,p4,p5⟩ (JO _ (by dsimp only;omega));rintro L ⟨i,j⟩ ⟨g1,g2,g3,g4,g5⟩ h;dsimp only at g1 g2 g3 g4 g5 h;unfold J3;dsimp only;rw[BQ];split
    .have eh:w64 (Dy (IntKind.u64.wrap (w64 (i+j))) 1)=(i+j) / 2:=V3 (by omega) (by omega);have e:w64 ((i+j) / 2+1)=(i+j) / 2+1:=Ah (by omega) (by omega);have ep:w64 (w64 (w64 ((a+b) / 2+m)-1)-(i+j) / 2)=(a+b) / 2+m-1-(i+j) / 2:=by
      rw[Ah (n:=(a+b) / 2+m) (by omega) (by omega),Ah (n:=(a+b) / 2+m-1) (by omega) (by omega)];exact Ah (by omega) (by omega)
     obtain⟨G,q1⟩:=H2 (l:=l) (i:=(i+j) / 2) (by omega) (by omega);obtain⟨J,E⟩:=H2 (l:=l) (i:=(a+b) / 2+m-1-(i+j) / 2) (by omega) (by omega);obtain⟨c,O⟩:=g J G;simp only[e0,eh,e,ep,q1,E,AB,O];cases S:decide (c<0)
     .rw[show (!false)=true from rfl,BK];exact h ((i+j) / 2+1,j) ⟨by dsimp only;omega,by dsimp only;omega,by dsimp only;omega,by dsimp only;omega,by dsimp only;omega⟩ (by dsimp only;omega)
     .rw[show (!true)=false from rfl,BL];exact h (i,(i+j) / 2) ⟨by dsimp only;omega,by dsimp only;omega,by dsimp only;omega,by dsimp only;omega,by dsimp only;omega⟩ (by dsimp only;omega)
    .rw[AV];exact AM6 hr h0 h1 h2 h3 hl hk g1 (by omega) (by omega) g5
   unfold KV;rw[e0,BQ];split
   .rw[AV,Ah (n:=(a+b) / 2+m) (by omega) (by omega),Ah (n:=(a+b) / 2+m-b) (by omega) (by omega)];exact key _ _ (by omega) (by omega) (by omega) (by omega) (by omega)
   .rw[AV];exact key _ _ (by omega) (by omega) (by omega) (by omega) (by omega)
theorem ACZ{α:Type}{cmp:α->α->AA Int}(g:∀x y,∃c,cmp x y=some c){mrg:List α->Int->Int->Int->AA (List α)}(Q:∀(l:List α) (a m b:Int),0<=a->a<m->m<b->b<=l.length->l.length<=40->Ln l.length (mrg l a m b)){l:List α}(Y:l.length<=40):Ln l.length (Fy cmp mrg l (l.length:Int)):=by
 unfold Fy;have O:∀v:List α,v.length=l.length->Ln l.length (A3 (Fe cmp mrg (l.length:Int)) big (v,20)):=by
  intro v X;refine J9 (fun x=>x.1.length=l.length/\(x.2=20\/x.2=40)) (fun x=>(40-x.2).toNat) (fun r:List α=>r.length=l.length) ?_ big (v,20) ⟨X,.inl rfl⟩ (JO _ (by dsimp only;omega));rintro L ⟨u,s⟩ ⟨j,S⟩ G;dsimp only at j S G;unfold Fe;dsimp only;rw[BQ];split
  .have E:s=20:=by omega
   subst E;have out:∀w:List α,w.length=l.length->Ln l.length (HG cmp mrg L 20 w):=by
    intro w B;unfold HG;rw[Ah (by omega) (by omega)];exact G (w,20*2) ⟨B,.inr rfl⟩ (by dsimp only;omega)
   rw[Ah (n:=2*20) (by omega) (by omega)];refine J9 (fun x=>x.1.length=l.length/\x.2.2=x.2.1+40/\(x.2.1=0\/x.2.1=40)) (fun x=>(40-x.2.1).toNat) (fun r:List α=>r.length=l.length) ?_ big (u,0,2*20) ⟨j,by dsimp only;omega,.inl rfl⟩ (JO _ (by dsimp only;omega));rintro L' ⟨w,a,b⟩ ⟨B,h,I⟩ H;dsimp only at B h I H;unfold MD;dsimp only;rw[BQ];split
   .obtain⟨x,q,e⟩:=Q w a (a+20) b (by omega) (by omega) (by omega) (by omega) (by omega);rw[Ah (n:=a+20) (by omega) (by omega),q,AB,Ah (n:=2*20) (by omega) (by omega),Ah (n:=b+2*20) (by omega) (by omega)];exact H (x,b,b+2*20) ⟨e.trans B,by dsimp only;omega,by dsimp only;omega⟩ (by dsimp only;omega)
   .rw[AV];unfold MC;dsimp only;rw[Ah (n:=a+20) (by omega) (by omega),BQ];split
    .obtain⟨x,q,e⟩:=Q w a (a+20) (l.length:Int) (by omega) (by omega) (by omega) (by omega) (by omega);rw[q,AB,AV];exact out x (e.trans B)
    .rw[AV];exact out w B
  .exact⟨u,rfl,j⟩
 have key:Ln l.length (A3 (Fc cmp mrg (l.length:Int)) big (l,0,20)):=by
  refine J9 (fun x=>x.1.length=l.length/\0<=x.2.1/\x.2.1<=(l.length:Int)/\x.2.2=x.2.1+20) (fun x=>(60-x.2.1).toNat) (fun r:List α=>r.length=l.length) ?_ big (l,0,20) ⟨rfl,by dsimp only;omega,by dsimp only;omega,by dsimp only;omega⟩ (JO _ (by dsimp only;omega));rintro L ⟨u,a,b⟩ ⟨j,I,J,h⟩ G;dsimp only at j I J h G;unfold Fc;dsimp only;rw[BQ];split
  .obtain⟨x,q,e⟩:=AXd g (l:=u) (a:=a) (b:=b) (by omega) (by omega) (by omega) (by omega);rw[q,AB,Ah (n:=b+20) (by omega) (by omega)];exact G (x,b,b+20) ⟨e.trans j,by dsimp only;omega,by dsimp only;omega,rfl⟩ (by dsimp only;omega)
  .rw[AV];unfold HF;dsimp only;obtain⟨x,q,e⟩:=AXd g (l:=u) (a:=a) (b:=(l.length:Int)) (by omega) (by omega) (by omega) (by omega);rw[q,AB];exact O x (e.trans j)
 exact key
theorem oN:∀k,vG (α:=Af) k (fun l a m b=>(Za k).d (l,a,m,b,(),()))
 |0=>by
  intro l a m b c e g j B q
  grind
 |k+1=>AJz (fun x y=>(Ov x y).imp fun _ h=>h.1) (oN k)
theorem ABa{l:List Af}{a m b:Int}(c:0<=a)(e:a<m)(g:m<b)(h:b<=l.length)(j:l.length<=40):Ln l.length (ANi l a m b):=
 oN 7 l a m b c e g h (by omega) (by have:(2:Int) ^ 7=128:=rfl;omega)
theorem kD{l:List Af}(c:l.length<=40):Ln l.length (lU l):=by
 unfold lU AGR;obtain⟨x,e,a⟩:=ACZ (fun x y=>(Ov x y).imp fun _ h=>h.1) (mrg:=ANi) (fun _ _ _ _=>ABa) c;rw[e,AB];exact⟨x,rfl,a⟩
theorem AJy:∀k,vG (α:=BH) k (fun l a m b=>(Zb k).d (l,a,m,b,(),()))
 |0=>by
  intro l a m b c e g j B q
  grind
 |k+1=>AJz (fun x y=>(Me x y).imp fun _ h=>h.1) (AJy k)
theorem ALA{l:List BH}{a m b:Int}(c:0<=a)(e:a<m)(g:m<b)(h:b<=l.length)(j:l.length<=40):Ln l.length (ANp l a m b):=
 AJy 7 l a m b c e g h (by omega) (by have:(2:Int) ^ 7=128:=rfl;omega)
theorem ud{l:List BH}(c:l.length<=40):Ln l.length (lh l):=by
 unfold lh AGj;obtain⟨x,e,a⟩:=ACZ (fun x y=>(Me x y).imp fun _ h=>h.1) (mrg:=ANp) (fun _ _ _ _=>ALA) c;rw[e,AB];exact⟨x,rfl,a⟩
end Lv.P
