/- Plain laws about what the program computes. -/
import Derived.Test.YtnjoipcemhflkaaGreatPAc
set_option linter.unusedVariables false
set_option linter.unusedSimpArgs false
set_option linter.unusedSectionVars false
open Int renaming eq_ofNat_of_zero_le->AZ,tdiv_eq_ediv_of_nonneg->F8,tmod_eq_emod_of_nonneg->DY,toNat_natCast->Ac
open List renaming cons_append->EF,drop_drop->Cx,drop_eq_getElem_cons->GO,drop_eq_nil_iff->FQ,drop_eq_nil_of_le->BI,drop_left->D1,drop_zero->Cb,flatMap_cons->Cp,getElem?_drop->Ba,getElem?_eq_getElem->AU,getElem?_eq_none->C6,length_append->AN,length_cons->AI,length_nil->AP,length_set->Am,nil_append->Bk
open Nat renaming add_assoc->CB,div_lt_iff_lt_mul->CY,lt_or_ge->AV,mod_eq_of_lt->J2,mul_le_mul_right->Af,pow_le_pow_right->FV,pow_succ->Gz,xor_lt_two_pow->DO,zero_add->Ao
namespace Lv.P
open Go (IntKind BinOp UnOp)
@[simp] theorem af(a b c:Int):EC a b c=some (decide (b<=a/\a<=c)):=by
 grind[EC,aE,BJ,AT]
@[simp] theorem QM(a b c:Int):Cq a b c=some (decide (b<=a/\a<=c)):=by
 grind[Cq,Ve,BJ,AT]
def Ei(n:Nat):List UInt8:=if n<128 then [UInt8.ofNat n] else UInt8.ofNat (n % 128+128)::Ei (n / 128)
decreasing_by omega
def pN(n:Int):List UInt8:=if 0<=n/\n<=2147483647 then Ei n.toNat else []
theorem Ok{n:Nat}(h:n<128):Ei n=[UInt8.ofNat n]:=by rw[Ei,if_pos h]
theorem Tl{n:Nat}(h:128<=n):Ei n=UInt8.ofNat (n % 128+128)::Ei (n / 128):=by rw[Ei,if_neg (by omega)]
theorem Hl(n:Nat):0<(Ei n).length:=by rw[Ei];split<;>simp
theorem Zk:∀(k n:Nat),n<128 ^ (k+1)->(Ei n).length<=k+1
 |0,n,h=>by rw[Ok (by simpa using h)];simp|k+1,n,h=>by
  rcases AV n 128 with a|a
  .rw[Ok a];simp
  .rw[Tl a];have:=Zk k (n / 128) (by rw[CY (by omega)];rw[Gz]at h;exact h);simp only[AI];omega
theorem J9{n:Nat}(h:n<=2147483647):(Ei n).length<=5:=Zk 4 n (by omega)
theorem Q6(n:Int):(pN n).length<=5:=by unfold pN;split
                                       .exact J9 (by omega)
                                       .simp
theorem AGK{F:(Int×List UInt8->AA (List UInt8))->Int×List UInt8->AA (List UInt8)}
 (hF:∀L n acc,F L (n,acc)=if n<128 then gd (acc.length+1<=lim) (some (acc++[toB n])) else gd (acc.length+1<=lim) (L (w64 (Int.tdiv n 128),acc++[toB (w64 (Int.tmod n 128+128))])))
 {n:Nat} (q:n<=2147483647):A7 F big ((n:Int),[])=some (Ei n):=by
 have:=Ye (F:=F) (x:=((n:Int),[])) (fun x=>some (x.2++Ei x.1.toNat)) (fun x=>0<=x.1/\x.1<=2147483647/\x.2.length+(Ei x.1.toNat).length<=5) (fun x=>x.1.toNat) ?_ ?_ ?_
 .simpa using this
 .rintro L ⟨m,acc⟩ ⟨a,j,c⟩ hL;dsimp only at a j c hL ⊢;obtain⟨m,rfl⟩:=AZ a;rw[hF];simp only[Ac]at c hL ⊢;have hlim:acc.length+1<=lim:=by have:=Hl m;unfold lim;omega
  by_cases h:m<128
  .rw[if_pos (by omega),Bt hlim,Ok h,AGc (by omega)]
  .have e:Int.tdiv (m:Int) 128=((m / 128:Nat):Int):=by
    rw[F8 (by omega)];rfl
   have g:Int.tmod (m:Int) 128+128=((m % 128+128:Nat):Int):=by
    rw[DY (by omega)];omega
   have y:=Tl (n:=m) (by omega);rw[if_neg (by omega),Bt hlim,e,g,A4 (by omega) (by omega),A4 (by omega) (by omega),AGc (by omega)]
   grind
 .refine⟨by dsimp only;omega,by dsimp only;omega,?_⟩;have:=J9 q;simpa using this
 .dsimp only;omega
@[simp] theorem S4(n:Int):cR n=some (pN n):=by
 unfold cR pN;simp only[af,AB,BN,BJ];split
 .rename_i h;obtain⟨m,rfl⟩:=AZ h.1;refine AGK (fun L n acc=>?_) (by omega);unfold vN vM;simp only[BJ,AT,AI,AP,Ao];by_cases h:n>127
  .grind
  .rw[if_neg h,if_pos (by omega)]
 .rfl
@[simp] theorem J6(n:Int):Vq n=some (pN n):=by
 unfold Vq pN;simp only[QM,AB,BN,BJ];split
 .rename_i h;obtain⟨m,rfl⟩:=AZ h.1;refine AGK (fun L n acc=>?_) (by omega);unfold vU vT;simp only[BJ,AT,AI,AP,Ao];by_cases h:n>=128
  .grind
  .rw[if_neg h,if_pos (by omega)]
 .rfl
def rdN:Nat->Nat->Nat->List UInt8->AA (Nat×Nat)
 |0,_,_,_=>none|_+1,_,_,[]=>none|f+1,k,a,d::l=>
  if d.toNat<128 then (if (0<k/\d.toNat=0)\/2147483647<a+(d.toNat % 128)*2 ^ (7*k) then none else some (a+(d.toNat % 128)*2 ^ (7*k),k+1))
  else rdN f (k+1) (a+(d.toNat % 128)*2 ^ (7*k)) l
def pM(at_:Nat):AA (Nat×Nat)->Int×Int×Bool|some (n,m)=>((n:Int),((at_+m:Nat):Int),true)|none=>(0,0,false)
def gN(b:List UInt8)(i:Int):Int×Int×Bool:=if 0<=i/\i<b.length then pM i.toNat (rdN 5 0 0 (b.drop i.toNat)) else (0,0,false)
theorem zu{c s:Nat}(g:c<128)(a:s<=28):kF (c:Int) (s:Int)=((c*2 ^ s:Nat):Int):=by
 have e:c*2 ^ s<2 ^ 35:=by
  have:2 ^ s<=2 ^ 28:=FV (by omega) a
  calc c*2 ^ s<=127*2 ^ 28:=Nat.mul_le_mul (by omega) this
   _<2 ^ 35:=by decide
 grind[IntKind.bits,Tt]
theorem P3{n:Nat}(h:n<2 ^ 63):(BitVec.ofInt IntKind.i64.bits (n:Int)).toNat=n:=by
 simp only[IntKind.bits,BitVec.toNat_ofInt];omega
theorem ARU{a b:Nat}(c:a<2 ^ 63)(e:b<2 ^ 63):orI (a:Int) (b:Int)=((a |||b:Nat):Int):=by
 unfold orI;rw[BitVec.toNat_or,P3 c,P3 e];have:a |||b<2 ^ 63:=Nat.or_lt_two_pow c e;rw[Tt (by omega) (by omega)]
theorem ATY{a c s:Nat}(e:a<2 ^ s):a |||c*2 ^ s=a+c*2 ^ s:=by
 have:=Nat.two_pow_add_eq_or_of_lt e c;rw[Nat.or_comm,Nat.mul_comm,<-this,Nat.add_comm]
theorem zO:∀(k n:Nat),n<128 ^ (k+1)->((Ei n).length=k+1↔k=0\/128 ^ k<=n)
 |0,n,h=>by rw[Ok (by simpa using h)];simp|k+1,n,h=>by
  rcases AV n 128 with a|a
  .grind[Ok]
  .rw[Tl a];have c:n / 128<128 ^ (k+1):=by rw[CY (by omega)];rw[Gz]at h;exact h
   have:=zO k (n / 128) c;have e:128 ^ k<=n / 128↔128 ^ (k+1)<=n:=by rw[Nat.le_div_iff_mul_le (by omega),Gz]
   grind
theorem ATc(k:Nat):(2:Nat) ^ (7*k)=128 ^ k:=by rw[Nat.pow_mul]
theorem digit{a k c:Nat}(j:k<5)(g:a<128 ^ k)(h:c<128):a+c*2 ^ (7*k)<128 ^ (k+1)/\a+c*2 ^ (7*k)<2 ^ 35:=by
 rw[ATc];have e:a+c*128 ^ k<128 ^ (k+1):=by
  have:c*128 ^ k<=127*128 ^ k:=Af _ (by omega);rw[Gz];omega
 refine⟨e,Nat.lt_of_lt_of_le e ?_⟩
 calc 128 ^ (k+1)<=128 ^ 5:=FV (by omega) (by omega)
  _=2 ^ 35:=by decide
theorem QG{b:List UInt8}(I:b.length<2 ^ 62){i:Nat}(hi:i<2 ^ 62):∀(f k a n:Nat),f+k=5->f<n->a<128 ^ k ->
 A7 (Pb b i) n ((a:Int),(k:Int))=some (pM i (rdN f k a (b.drop (i+k))))
 |0,k,a,n,Q,X,g=>by
  obtain⟨n,rfl⟩:∃m,n=m+1:=⟨n-1,by omega⟩;rw[Dy];unfold Pb vz;simp only[BJ,AT];rw[if_neg (by omega)];rfl
 |f+1,k,a,n,Q,X,g=>by
  obtain⟨n,rfl⟩:∃m,n=m+1:=⟨n-1,by omega⟩;rw[Dy];generalize hL:A7 (Pb b i) n=L;unfold Pb;simp only[BJ,AT];rw[if_pos (by omega),if_neg (by omega)];unfold Vw Vx;simp only[BJ,AT,BP,Bb,ge_iff_le,beq_iff_eq,decide_eq_true_eq];rw[A4 (n:=(b.length:Int)-k) (by omega) (by omega)];cases e:b.drop (i+k) with
  |nil=>
   have:b.length<=i+k:=FQ.1 e;rw[if_pos (by omega)];rfl
  |cons d l=>
   have S:i+k<b.length:=by
    rcases AV (i+k) b.length with h|h
    .exact h
    .rw[BI h]at e;cases e
   have J:b[i+k]?=some d:=by
    have:=Ba (xs:=b) (i:=i+k) (j:=0);rw[e]at this;simpa using this.symm
   have q:b.drop (i+(k+1))=l:=by
    rw[<-CB,<-Cx,e];rfl
   rw[if_neg (by omega),A4 (n:=(i:Int)+k) (by omega) (by omega),show (i:Int)+k=((i+k:Nat):Int) from by push_cast;rfl,OQ,J,AB];have O:d.toNat<256:=d.toNat_lt;have G:w64 (7*(k:Int))=((7*k:Nat):Int):=by rw[A4 (by omega) (by omega)];push_cast;rfl
   have ed:w64 ((d.toNat:Nat):Int)=(d.toNat:Int):=A4 (by omega) (by omega);have em:Int.tmod (d.toNat:Int) 128=((d.toNat % 128:Nat):Int):=by rw[DY (by omega)];rfl
   obtain⟨B,Y⟩:=digit (a:=a) (k:=k) (c:=d.toNat % 128) (by omega) g (by omega);have y:orI (a:Int) (kF ((d.toNat % 128:Nat):Int) ((7*k:Nat):Int))=((a+(d.toNat % 128)*2 ^ (7*k):Nat):Int):=by
    rw[zu (by omega) (by omega)];rw[ARU (by have:=FV (n:=128) (by omega) (show k<=5 by omega);omega) (by omega),ATY (by rw[ATc];exact g)]
   rw[G,Bt (by omega),ed,em,y];simp only[rdN];have E:w64 ((k:Int)+1)=((k+1:Nat):Int):=A4 (by omega) (by omega);by_cases H:d.toNat<128
   .grind[pM,Prod.mk.injEq,A4]
   .rw[if_neg (by omega),if_neg H,E,<-hL,QG I hi f (k+1) _ n (by omega) (by omega) B,q]
theorem Pr{b:List UInt8}(Q:b.length<2 ^ 62){i:Nat}(hi:i<2 ^ 62):∀(f k a n:Nat),f+k=5->f<n->a<128 ^ k ->
 A7 (HC b i) n ((a:Int),(k:Int))=some (pM i (rdN f k a (b.drop (i+k))))
 |0,k,a,n,Y,hn,G=>by
  obtain⟨n,rfl⟩:∃m,n=m+1:=⟨n-1,by omega⟩;rw[Dy];unfold HC Ix LI;simp only[BJ,AT];rw[if_neg (by omega)];rfl
 |f+1,k,a,n,Y,hn,G=>by
  obtain⟨n,rfl⟩:∃m,n=m+1:=⟨n-1,by omega⟩;rw[Dy];generalize hL:A7 (HC b i) n=L;unfold HC;simp only[BJ,AT];rw[if_pos (by omega)];unfold Ix LI;simp only[BJ,AT,Bb,bne_iff_ne,J6,AB,decide_eq_true_eq];rw[A4 (n:=(i:Int)+k) (by omega) (by omega),show (i:Int)+k=((i+k:Nat):Int) from by push_cast;rfl];cases e:b.drop (i+k) with
  |nil=>
   have:b.length<=i+k:=FQ.1 e;rw[if_neg (by omega)];rfl
  |cons d l=>
   have hlt:i+k<b.length:=by
    rcases AV (i+k) b.length with h|h
    .exact h
    .rw[BI h]at e;cases e
   have S:b[i+k]?=some d:=by
    have:=Ba (xs:=b) (i:=i+k) (j:=0);rw[e]at this;simpa using this.symm
   have y:b.drop (i+(k+1))=l:=by
    rw[<-CB,<-Cx,e];rfl
   rw[if_pos (by omega),OQ,S,AB];have X:d.toNat<256:=d.toNat_lt;have J:w64 (7*(k:Int))=((7*k:Nat):Int):=by rw[A4 (by omega) (by omega)];push_cast;rfl
   have ed:w64 ((d.toNat:Nat):Int)=(d.toNat:Int):=A4 (by omega) (by omega);have em:Int.tmod (d.toNat:Int) 128=((d.toNat % 128:Nat):Int):=by rw[DY (by omega)];rfl
   obtain⟨q,hs2⟩:=digit (a:=a) (k:=k) (c:=d.toNat % 128) (by omega) G (by omega);have B:w64 ((a:Int)+(kF ((d.toNat % 128:Nat):Int) ((7*k:Nat):Int)))=((a+(d.toNat % 128)*2 ^ (7*k):Nat):Int):=by
    rw[zu (by omega) (by omega),A4 (by omega) (by omega)];push_cast;rfl
   rw[J,Bt (by omega),ed,em,B];simp only[rdN,J6,AB];have I:w64 ((k:Int)+1)=((k+1:Nat):Int):=A4 (by omega) (by omega);rw[I];by_cases E:d.toNat<128
   .rw[if_pos (by omega),if_pos E];have g:128 ^ k<=a+(d.toNat % 128)*2 ^ (7*k)↔d.toNat≠0:=by
     rw[ATc];constructor
     .rintro h O;rw[O]at h;simp at h;omega
     .intro h;have:1*128 ^ k<=d.toNat % 128*128 ^ k:=Af _ (by omega);omega
    have H:((pN ((a+(d.toNat % 128)*2 ^ (7*k):Nat):Int)).length:Int)≠((k+1:Nat):Int)↔(0<k/\d.toNat=0)\/2147483647<a+(d.toNat % 128)*2 ^ (7*k):=by
     unfold pN;split
     .rename_i Z;rw[Ac];have:=zO k _ q;rw[g]at this;rw[Ne,Int.ofNat_inj,this];omega
     .simp only[AP];omega
    grind[pM,A4]
   .rw[if_neg (by omega),if_neg E,<-hL,Pr Q hi f (k+1) _ n (by omega) (by omega) q,y]
theorem Oo{b:List UInt8}(c:b.length<2 ^ 62)(i:Int)(hi:i<2 ^ 62):dP b i=some (gN b i):=by
 unfold dP gN;by_cases a:0<=i
 .obtain⟨j,rfl⟩:=AZ a;have:=QG c (i:=j) (by omega) 5 0 0 big (by omega) (IC _ (by omega)) (by omega);refine Eq.trans this ?_;simp only[Ac,Nat.add_zero];split
  .rfl
  .rw[BI (by omega)];rfl
 .obtain⟨n,e⟩:=Rp 0 (by omega)
  grind[Dy,Pb,Vw,BJ,AT]
theorem Og{b:List UInt8}(c:b.length<2 ^ 62)(i:Int):Hw b i=some (gN b i):=by
 unfold Hw gN;simp only[QM,AB,BN,BJ];rw[A4 (by omega) (by omega)];by_cases a:0<=i/\i<b.length
 .obtain⟨j,rfl⟩:=AZ a.1;rw[if_pos (by omega),if_pos a];have:=Pr c (i:=j) (by omega) 5 0 0 big (by omega) (IC _ (by omega)) (by omega)
  grind
 grind
theorem ASb{n:Nat}(h:n<256):(UInt8.ofNat n).toNat=n:=by simp;omega
theorem sY:∀(f k a n:Nat) (l:List UInt8),(Ei n).length<=f->(k=0\/n≠0)->a+n*2 ^ (7*k)<=2147483647->rdN f k a (Ei n++l)=some (a+n*2 ^ (7*k),k+(Ei n).length)
 |0,k,a,n,l,h,_,_=>by have:=Hl n;omega|f+1,k,a,n,l,h,q,j=>by
  rcases AV n 128 with c|c
  .rw[Ok c];simp only[EF,Bk,rdN,AI,AP];rw[ASb (by omega),if_pos c,J2 c,if_neg (by omega)]
  .rw[Tl c]at h ⊢;simp only[EF,rdN,AI]at h ⊢;rw[ASb (by omega),if_neg (by omega)];have e:(n % 128+128) % 128=n % 128:=by omega
   have g:a+n % 128*2 ^ (7*k)+n / 128*2 ^ (7*(k+1))=a+n*2 ^ (7*k):=by
    grind[Nat.mod_add_div]
   rw[e,sY f (k+1) _ (n / 128) l (by omega) (by omega) (by rw[g];exact j),g];congr 2;omega
theorem ar:∀(f k a:Nat) (l:List UInt8) (N m:Nat),rdN f k a l=some (N,m)->∃n l',l=Ei n++l'/\N=a+n*2 ^ (7*k)/\m=k+(Ei n).length/\(k=0\/n≠0)/\N<=2147483647
 |0,k,a,l,N,m,h=>by cases h
 |f+1,k,a,[],N,m,h=>by cases h
 |f+1,k,a,d::l,N,m,h=>by
  have y:d.toNat<256:=d.toNat_lt;simp only[rdN]at h;split at h
  .rename_i e;split at h
   .cases h
   .rename_i B;cases h;refine⟨d.toNat,l,?_,?_,?_,by omega,by omega⟩
    .rw[Ok e];simp
    .rw[J2 e]
    .rw[Ok e];rfl
  .rename_i e;obtain⟨n,l',g,E,j,G,q⟩:=ar f (k+1) _ l N m h;have H:n≠0:=by omega
   have c:128<=d.toNat % 128+128*n:=by omega
   refine⟨d.toNat % 128+128*n,l',?_,?_,?_,.inr (by omega),q⟩
   .rw[Tl c,show (d.toNat % 128+128*n) % 128+128=d.toNat by omega,show (d.toNat % 128+128*n) / 128=n by omega,g];simp
   .grind
   .rw[Tl c,show (d.toNat % 128+128*n) / 128=n by omega,j];simp only[AI];omega
def rdL:Nat->List UInt8->AA (List Int)
 |0,_=>none|f+1,[]=>some []|f+1,l=>match rdN 5 0 0 l with|some (n,m)=>(rdL f (l.drop m)).map ((n:Int)::·)|none=>none
def okN(n:Int):Prop:=0<=n/\n<=2147483647
def pL(l:List Int):List UInt8:=l.flatMap pN
theorem AON{n:Int}(h:okN n):pN n=Ei n.toNat:=by unfold pN;rw[if_pos (show 0<=n/\n<=2147483647 from h)]
theorem AOO{n:Int}(h:okN n):0<(pN n).length:=by rw[AON h];exact Hl _
theorem ATg{n:Int}(h:okN n)(l:List UInt8):rdN 5 0 0 (pN n++l)=some (n.toNat,(pN n).length):=by
 rw[AON h,sY 5 0 0 n.toNat l (J9 (by have:=h.2;omega)) (.inl rfl) (by have:=h.2;simp;omega)];simp
theorem APb:∀(l:List Int) (f:Nat),(∀n∈l,okN n)->(pL l).length<f->rdL f (pL l)=some l
 | [],f,_,h=>by
  obtain⟨f,rfl⟩:∃g,f=g+1:=⟨f-1,by omega⟩;rfl
 |n::l,f,j,h=>by
  obtain⟨f,rfl⟩:∃g,f=g+1:=⟨f-1,by omega⟩;have a:=j n (by simp);have q:=AOO a;have e:pL (n::l)=pN n++pL l:=by simp[pL]
  rw[e]at h ⊢;have c:pN n++pL l≠[]:=by intro h;rw[List.append_eq_nil_iff]at h;rw[h.1]at q;simp at q
  rw[rdL.eq_3 _ _ (by simpa using c),ATg a];simp only[D1];rw[APb l f (fun m y=>j m (by simp[y])) (by rw[AN]at h;omega)];simp only[Option.map_some,Int.toNat_of_nonneg a.1]
theorem sX:∀(f:Nat) (s:List UInt8) (l:List Int),rdL f s=some l->s=pL l/\∀n∈l,okN n
 |0,s,l,h=>by cases h
 |f+1,[],l,h=>by cases h;exact⟨rfl,by simp⟩
 |f+1,d::s,l,h=>by
  rw[rdL.eq_3 _ _ (by simp)]at h;split at h
  .rename_i n m B;obtain⟨H,l',c,e,g,_,G⟩:=ar _ _ _ _ _ _ B;simp only[Nat.mul_zero,Nat.pow_zero,Nat.mul_one,Ao]at e g;subst e g;rw[Option.map_eq_some_iff]at h;obtain⟨E,j,rfl⟩:=h;rw[c,D1]at j;obtain⟨q,y⟩:=sX f l' E j;refine⟨?_,?_⟩
   .rw[c,q];simp only[pL,Cp];rw[AON ⟨by omega,by omega⟩];simp
   .intro x a;rcases List.mem_cons.1 a with rfl|a
    .exact⟨by omega,by omega⟩
    .exact y x a
  .cases h
def ATe:AA (List Int)->List Int×Bool|some l=>(l,true)|none=>([],false)
theorem i5{b:List UInt8}(y:b.length<=1048576){G:List UInt8->Int->AA (Int×Int×Bool)}(hG:∀i:Int,i<2 ^ 62->G b i=some (gN b i))
 {F:(List Int×Int->AA (List Int×Bool))->List Int×Int->AA (List Int×Bool)}
 (hF:∀L acc i,F L (acc,i)=if i<(b.length:Int) then bd (G b i) fun x=>br (!x.2.2) (some ([],false)) (gd (acc.length+1<=lim) (L (acc++[x.1],x.2.1))) else some (acc,true)) :
 ∀(f i n:Nat) (acc:List Int),b.length<f+i->f<=n->acc.length<=i->i<=b.length->A7 F n (acc,(i:Int))=some (match rdL f (b.drop i) with|some l=>(acc++l,true)|none=>([],false))
 |0,i,n,acc,e,g,j,q=>by omega|f+1,i,n,acc,e,g,j,q=>by
  obtain⟨n,rfl⟩:∃m,n=m+1:=⟨n-1,by omega⟩;rw[Dy,hF];by_cases hi:i<b.length
  .rw[if_pos (by omega),hG _ (by omega),AB];unfold gN;rw[if_pos (by omega),Ac];have c:b.drop i≠[]:=by intro h;rw[FQ]at h;omega
   rw[rdL.eq_3 _ _ (by simpa using c)];cases B:rdN 5 0 0 (b.drop i) with
   |none=>rfl|some p=>
    obtain⟨v,m⟩:=p;obtain⟨H,l',E,J,O,_,_⟩:=ar _ _ _ _ _ _ B;have I:0<m:=by have:=Hl H;omega
    have a:i+m<=b.length:=by
     have:=congrArg List.length E;rw[List.length_drop,AN]at this;omega
    simp only[pM,BN,BP];rw[Bt (by unfold lim;omega),i5 y hG hF f (i+m) n (acc++[(v:Int)]) (by omega) (by omega) (by rw[AN];simp;omega) a,<-Cx]
    grind
  .rw[if_neg (by omega),BI (by omega)];simp[rdL]
theorem tK{b:List UInt8}(a:b.length<=1048576):AED b=some (ATe (rdL (b.length+1) b)):=by
 unfold AED;have:=i5 a (G:=dP) (F:=dQ b) (fun i hi=>Oo (by omega) i hi) (fun L acc i=>by unfold dQ wA;simp only[BJ,AT];rfl) (b.length+1) 0 big [] (by omega) (by have:=Ro;omega) (by simp) (by omega);refine Eq.trans this ?_;simp only[Cb,Bk];cases rdL (b.length+1) b<;>rfl
theorem rS{b:List UInt8}(a:b.length<=1048576):Nm b=some (ATe (rdL (b.length+1) b)):=by
 unfold Nm;have:=i5 a (G:=Hw) (F:=KX b) (fun i hi=>Og (by omega) i) (fun L acc i=>by unfold KX OX;simp only[BJ,AT];rfl) (b.length+1) 0 big [] (by omega) (by have:=Ro;omega) (by simp) (by omega);refine Eq.trans this ?_;simp only[Cb,Bk];cases rdL (b.length+1) b<;>rfl
theorem ij{l:List Int}(h:l.length<=10000000){G:Int->AA (List UInt8)}(hG:∀n,G n=some (pN n))
 {F:(List UInt8×Int->AA (List UInt8))->List UInt8×Int->AA (List UInt8)}
 (hF:∀L acc i,F L (acc,i)=if i<(l.length:Int) then bd (at? l i) fun x=>bd (G x) fun y=>gd (acc.length+y.length<=lim) (L (acc++y,w64 (i+1))) else some acc) :
 ∀(f i n:Nat) (acc:List UInt8),l.length<f+i->f<=n->acc.length<=5*i->i<=l.length->A7 F n (acc,(i:Int))=some (acc++pL (l.drop i))
 |0,i,n,acc,a,c,e,g=>by omega|f+1,i,n,acc,a,c,e,g=>by
  obtain⟨n,rfl⟩:∃m,n=m+1:=⟨n-1,by omega⟩;rw[Dy,hF];by_cases hi:i<l.length
  .rw[if_pos (by omega),OQ,AU hi,AB,hG,AB];have:=Q6 l[i];rw[Bt (by unfold lim;omega),A4 (by omega) (by omega)];have:=ij h hG hF f (i+1) n (acc++pN l[i]) (by omega) (by omega) (by rw[AN];omega) hi;refine Eq.trans this ?_;rw[GO hi];simp only[pL,Cp,List.append_assoc]
  .rw[if_neg (by omega),BI (by omega)];simp[pL]
theorem XR{l:List Int}(a:l.length<=10000000):ZF l=some (pL l):=by
 unfold ZF;have:=ij a (G:=cR) (F:=cS l) S4 (fun L acc i=>by unfold cS vO;simp only[BJ,AT]) (l.length+1) 0 big [] (by omega) (by have:=Ro;omega) (by simp) (by omega);simpa using this
theorem Wq{l:List Int}(a:l.length<=10000000):um l=some (pL l):=by
 unfold um;have:=ij a (G:=Vq) (F:=bn l) J6 (fun L acc i=>by unfold bn uo;simp only[BJ,AT]) (l.length+1) 0 big [] (by omega) (by have:=Ro;omega) (by simp) (by omega);simpa using this
def fld(n:Int):Bool:=decide (0<=n/\n<=9999)
def Zl(q:B9):Bool:=
 if q.Kind=1 then fld q.Id&&fld q.AX&&decide (-1<=q.BY/\q.BY<=9999)&&fld q.A5&&fld q.Ci
 else if q.Kind=2\/q.Kind=4\/q.Kind=5\/q.Kind=7 then fld q.Id&&(q.AX==0&&(q.BY==0&&(q.A5==0&&q.Ci==0)))
 else if q.Kind=3 then fld q.AX&&fld q.A5&&(q.Id==0&&(q.BY==0&&q.Ci==0))
 else if q.Kind=6 then q.Id==0&&(q.AX==0&&(q.BY==0&&(q.A5==0&&q.Ci==0)))
 else false
def sa(q:B9):List Int:=
 if q.Kind=1 then [q.Kind,q.Id,q.AX,q.BY+1,q.A5,q.Ci]
 else if q.Kind=3 then [q.Kind,q.AX,q.A5]
 else if q.Kind=6 then [q.Kind]
 else [q.Kind,q.Id]
def U8(q:B9):List UInt8:=if Zl q then pL (sa q) else []
@[simp] theorem AC5(n:Int):Zy n=some (fld n):=by unfold Zy fld;simp
@[simp] theorem ACF(n:Int):RX n=some (fld n):=by unfold RX fld;simp
theorem AC4(q:B9):oI q=some (Zl q):=by
 obtain⟨k,a,b,c,d,e⟩:=q;unfold oI IF TN IF Zl;simp only[Bb,AT,AC5,AB,af,beq_iff_eq]
 grind
theorem ACE(q:B9):Vn q=some (Zl q):=by
 obtain⟨k,a,b,c,d,e⟩:=q;unfold Vn GS PX GS Zl;simp only[Bb,AT,ACF,AB,QM,beq_iff_eq]
 grind
theorem kI{q:B9}:AD9 q=some (U8 q):=by
 unfold AD9 U8;rw[AC4,AB,BN,Bb]
 grind[Zl,sa,Bb,A4,XR,AB]
theorem j7{q:B9}:AEB q=some (U8 q):=by
 grind[AEB,SA,U8,ACE,AB,Bb,Zl,sa,AT,Bt,lim,A4,Wq]
noncomputable def AUd(s:List UInt8):B9×Bool:=open Classical in if h:∃q,Zl q=true/\U8 q=s then (h.choose,true) else (⟨0,0,0,0,0,0⟩,false)
theorem ADO{γ:Type}(a b:List UInt8)(x y:AA γ):br (a != b) x y=if a=b then y else x:=by
 unfold br;by_cases h:a=b
 .simp[h]
 .rw[if_neg h,if_pos (by simpa using h)]
@[simp] theorem AS4(q:B9):VZ q q=some true:=by
 unfold VZ;simp[Bb]
def Xj(v:Nat):Nat:=if v % 2=1 then (v / 2) ^^^ 3988292384 else v / 2
def VY:Nat->Nat->Nat|0,v=>v|k+1,v=>VY k (Xj v)
def TL:Nat->List UInt8->Nat|v,[]=>v|v,x::l=>TL (VY 8 (v ^^^ x.toNat)) l
def KL(s:List UInt8):Nat:=TL 4294967295 s ^^^ 4294967295
theorem kb{v:Nat}(h:v<2 ^ 32):Xj v<2 ^ 32:=by
 unfold Xj;split
 .exact DO (by omega) (by omega)
 .omega
theorem Ua:∀k {v:Nat},v<2 ^ 32->VY k v<2 ^ 32|0,_,h=>h|k+1,_,h=>Ua k (kb h)
theorem Ub:∀(l:List UInt8) {v:Nat},v<2 ^ 32->TL v l<2 ^ 32| [],_,h=>h|x::l,v,h=>Ub l (Ua 8 (DO h (by have:=x.toNat_lt;omega)))
theorem QN{a b:Nat}(c:a<2 ^ 63)(e:b<2 ^ 63):T0 (a:Int) (b:Int)=((a ^^^ b:Nat):Int):=by
 unfold T0;rw[BitVec.toNat_xor,P3 c,P3 e];have:a ^^^ b<2 ^ 63:=DO c e;rw[Tt (by omega) (by omega)]
theorem AJe{a b:Nat}(c:a<2 ^ 63)(e:b<2 ^ 63):bB (a:Int) (b:Int)=((a &&& b:Nat):Int):=by
 grind[P3,Nat.and_le_left,Tt]
theorem AUf(a:Nat):DV (a:Int) 1=((a / 2:Nat):Int):=by
 grind[IntKind.bits]
theorem bQ{γ:Type}{F:(Int×Int->AA γ)->Int×Int->AA γ}{G:Int->AA γ}
 (hF:∀L (v k:Nat),v<2 ^ 32->k<=8->F L ((v:Int),(k:Int))=if k<8 then L (((Xj v:Nat):Int),((k+1:Nat):Int)) else G (v:Int)) :
 ∀(m k v n:Nat),k+m=8->m<n->v<2 ^ 32->A7 F n ((v:Int),(k:Int))=G ((VY m v:Nat):Int)
 |0,k,v,0,_,h,_=>by omega|0,k,v,n+1,c,_,a=>by rw[Dy,hF _ _ _ a (by omega),if_neg (by omega)];rfl|m+1,k,v,0,_,h,_=>by omega|m+1,k,v,n+1,c,h,a=>by
  rw[Dy,hF _ _ _ a (by omega),if_pos (by omega),bQ hF m (k+1) _ n (by omega) (by omega) (kb a)];rfl
theorem bP{s:List UInt8}{γ:Type}{F:(Int×Int->AA γ)->Int×Int->AA γ}{G:Int->AA γ}(e:s.length<2 ^ 62)
 (hF:∀L (v i:Nat),v<2 ^ 32->i<=s.length->F L ((v:Int),(i:Int))=match s[i]? with|none=>G (v:Int)|some x=>L (((VY 8 (v ^^^ x.toNat):Nat):Int),((i+1:Nat):Int))) :
 ∀(m i v n:Nat),i+m=s.length->m<n->v<2 ^ 32->A7 F n ((v:Int),(i:Int))=G ((TL v (s.drop i):Nat):Int)
 |0,i,v,0,_,h,_=>by omega|0,i,v,n+1,hi,_,c=>by
  rw[Dy,hF _ _ _ c (by omega),C6 (by omega),BI (by omega)];rfl
 |m+1,i,v,0,_,h,_=>by omega|m+1,i,v,n+1,hi,h,c=>by
  have a:i<s.length:=by omega
  rw[Dy,hF _ _ _ c (by omega),AU a];dsimp only;rw[bP e hF m (i+1) _ n (by omega) (by omega) (Ua 8 (DO c (by have:=s[i].toNat_lt;omega))),GO a];rfl
theorem z7{s:List UInt8}(B:s.length<2 ^ 62):vP s=some ((KL s:Nat):Int):=by
 unfold vP;have:=bP (F:=cV s) (G:=fun v=>some (T0 v 4294967295)) B ?_ s.length 0 4294967295 big (by omega) (IC _ (by omega)) (by omega)
 .refine Eq.trans this ?_;have e:=QN (a:=TL 4294967295 s) (b:=4294967295) (by have:=Ub s (v:=4294967295) (by omega);omega) (by omega);show some (T0 _ ((4294967295:Nat):Int))=_;rw[Cb,e];rfl
 .intro L v i j hi;unfold cV vR;simp only[BJ,AT,OQ];by_cases h:i<s.length
  .rw[if_pos (by omega),AU h,AB];dsimp only;have H:=s[i].toNat_lt;rw[A4 (by omega) (by omega),QN (by omega) (by omega)];have:=bQ (F:=cW L (i:Int)) (G:=fun v=>L (v,((i+1:Nat):Int))) ?_ 8 0 (v ^^^ s[i].toNat) big (by omega) (IC _ (by omega)) (DO j (by omega))
   .exact this
   .intro L5 v k j E;unfold cW cU vQ;simp only[BJ,AT];by_cases g:k<8
    .rw[if_pos (by omega),if_pos g];have q:Int.tmod (v:Int) 2=((v % 2:Nat):Int):=by rw[DY (by omega)];omega
     have y:Int.tdiv (v:Int) 2=((v / 2:Nat):Int):=by rw[F8 (by omega)];omega
     rw[q,y,A4 (by omega) (by omega),A4 (n:=(k:Int)+1) (by omega) (by omega),Bb,show (3988292384:Int)=((3988292384:Nat):Int) from rfl,QN (by omega) (by omega)];unfold Xj;by_cases c:v % 2=1
     .rw[if_pos (by rw[c];rfl),if_pos c];rfl
     .rw[if_neg (by rw[beq_iff_eq];omega),if_neg c];rfl
    .rw[if_neg (by omega),if_neg g,A4 (by omega) (by omega)];rfl
  .rw[if_neg (by omega),C6 (by omega)]
theorem ym{s:List UInt8}(y:s.length<2 ^ 62):uq s=some ((KL s:Nat):Int):=by
 unfold uq;have:=bP (F:=bt s) (G:=fun v=>some (T0 v 4294967295)) y ?_ s.length 0 4294967295 big (by omega) (IC _ (by omega)) (by omega)
 .refine Eq.trans this ?_;have e:=QN (a:=TL 4294967295 s) (b:=4294967295) (by have:=Ub s (v:=4294967295) (by omega);omega) (by omega);show some (T0 _ ((4294967295:Nat):Int))=_;rw[Cb,e];rfl
 .intro L v i j hi;unfold bt uu;simp only[BJ,AT,OQ];by_cases h:i<s.length
  .rw[if_pos (by omega),AU h,AB];dsimp only;have E:=s[i].toNat_lt;rw[A4 (by omega) (by omega),QN (by omega) (by omega)];have:=bQ (F:=bu L (i:Int)) (G:=fun v=>L (v,((i+1:Nat):Int))) ?_ 8 0 (v ^^^ s[i].toNat) big (by omega) (IC _ (by omega)) (DO j (by omega))
   .exact this
   .intro L5 v k j B;unfold bu bq ur;simp only[BJ,AT];by_cases g:k<8
    .rw[if_pos (by omega),if_pos g];have q:bB (v:Int) 1=((v % 2:Nat):Int):=by
      rw[show (1:Int)=((1:Nat):Int) from rfl,AJe (by omega) (by omega),Nat.and_one_is_mod]
     rw[q,AUf,A4 (n:=(k:Int)+1) (by omega) (by omega),Bb,show (3988292384:Int)=((3988292384:Nat):Int) from rfl,QN (by omega) (by omega)];unfold Xj;by_cases c:v % 2=1
     .rw[if_pos (by rw[c];rfl),if_pos c];rfl
     .rw[if_neg (by rw[beq_iff_eq];omega),if_neg c];rfl
    .rw[if_neg (by omega),if_neg g,A4 (by omega) (by omega)];rfl
  .rw[if_neg (by omega),C6 (by omega)]
def four(c:Int):List UInt8:=[toB (DV c 24),toB (DV c 16),toB (DV c 8),toB c]
theorem Ht(c:Int):(four c).length=4:=rfl
def Pp(q:Int)(b:List UInt8):Prop:=(1<=q/\q<=1000000)/\(1<=b.length/\b.length<=60)
instance (q:Int) (b:List UInt8):Decidable (Pp q b):=by unfold Pp;infer_instance
def frT(q:Int)(b:List UInt8):List UInt8:=four ((KL (pN q++b):Nat):Int)++(pN q++b)
def frB(q:Int)(b:List UInt8):List UInt8:=if Pp q b then pN ((frT q b).length:Int)++frT q b else []
theorem Od{q:Int}{b:List UInt8}(h:Pp q b):6<=(frT q b).length/\(frT q b).length<=69:=by
 have a:=Q6 q;have c:0<(pN q).length:=by unfold pN;rw[if_pos (by have:=h.1;omega)];exact Hl _
 have:=h.2;simp only[frT,AN,Ht];omega
theorem Wi{q:Int}{b:List UInt8}(h:Pp q b):7<=(frB q b).length/\(frB q b).length<=74:=by
 have:=Od h;have a:=Q6 ((frT q b).length:Int);have c:0<(pN ((frT q b).length:Int)).length:=by unfold pN;rw[if_pos (by omega)];exact Hl _
 unfold frB;rw[if_pos h,AN];omega
theorem AKj{q:Int}{b:List UInt8}(h:frB q b≠[]):Pp q b:=by
 grind[frB]
theorem RD(q:Int)(b:List UInt8):vk q b=some (frB q b):=by
 unfold vk dE;simp only[af,AB,AT,BN,BP];by_cases c:1<=q/\q<=1000000
 .rw[decide_eq_true c,BP];by_cases g:(1:Int)<=b.length/\(b.length:Int)<=60
  .have a:Pp q b:=⟨c,by omega⟩;have j:=Q6 q;rw[decide_eq_true g,BP,S4,AB,Bt (by unfold OE;omega),z7 (by rw[AN];omega),AB];unfold vS;rw[AB,Bt (by simp only[AN,AI,AP];unfold OE;omega),S4,AB];have e:[toB (DV ((KL (pN q++b):Nat):Int) 24),toB (DV ((KL (pN q++b):Nat):Int) 16),toB (DV ((KL (pN q++b):Nat):Int) 8),toB ((KL (pN q++b):Nat):Int)]++(pN q++b)=frT q b:=rfl;rw[e];have:=Q6 ((frT q b).length:Int);have:=Od a;rw[Bt (by unfold OE;omega)];unfold frB;rw[if_pos a]
  .rw[decide_eq_false g,BS];unfold frB;rw[if_neg (fun h=>g ⟨by have:=h.2;omega,by have:=h.2;omega⟩)]
 .rw[decide_eq_false c,BS];unfold frB;rw[if_neg (fun h=>c h.1)]
theorem Qr(q:Int)(b:List UInt8):vt q b=some (frB q b):=by
 unfold vt dM;simp only[QM,AB,AT,BN,BP];by_cases c:1<=q/\q<=1000000
 .rw[decide_eq_true c,BP];by_cases g:(1:Int)<=b.length/\(b.length:Int)<=60
  .have a:Pp q b:=⟨c,by omega⟩;have j:=Q6 q;rw[decide_eq_true g,BP,J6,AB,Bt (by unfold lim;omega),ym (by rw[AN];omega),AB];rw[Bt (by simp only[AN,AI,AP];unfold lim;omega),J6,AB];have e:[toB (DV ((KL (pN q++b):Nat):Int) 24),toB (DV ((KL (pN q++b):Nat):Int) 16),toB (DV ((KL (pN q++b):Nat):Int) 8),toB ((KL (pN q++b):Nat):Int)]++(pN q++b)=frT q b:=rfl;rw[e];have:=Q6 ((frT q b).length:Int);have:=Od a;rw[Bt (by unfold OE;omega)];unfold frB;rw[if_pos a]
  .rw[decide_eq_false g,BS];unfold frB;rw[if_neg (fun h=>g ⟨by have:=h.2;omega,by have:=h.2;omega⟩)]
 .rw[decide_eq_false c,BS];unfold frB;rw[if_neg (fun h=>c h.1)]
end Lv.P
namespace Lv.P
open Lv Go
theorem FG{α:Type}{l:List α}{i:Int}(a:0<=i)(c:i<l.length):∃x,at? l i=some x:=by
 obtain⟨n,rfl⟩:=AZ a;exact⟨_,A9 (by omega)⟩
theorem Wj{x:Int}(a:0<=x)(c:x<1152921504606846976):w64 (DV (IntKind.u64.wrap (w64 x)) 1)=x / 2:=by
 obtain⟨n,rfl⟩:=AZ a
 grind[A4,IntKind.wrap,IntKind.signed,IntKind.bits,AUf]
def Ln{α:Type}(n:Nat)(x:AA (List α)):Prop:=∃r,x=some r/\r.length=n
theorem Je(k:Nat)(h:k<2 ^ 64):k<big:=IC k h
theorem ASS{α:Type}{cmp:α->α->AA Int}(g:∀x y,∃c,cmp x y=some c){l:List α}{a b:Int}(h0:0<=a)(ha:a<=l.length)(hb:b<=l.length)(hl:l.length<1099511627776):Ln l.length (C0 cmp l a b):=by
 unfold C0;rw[A4 (by omega) (by omega)];refine Jq (fun x=>x.1.length=l.length/\a+1<=x.2/\x.2<=2*1099511627776) (fun x=>(b-x.2).toNat) (fun r:List α=>r.length=l.length) ?_ big (l,a+1) ⟨rfl,by dsimp only;omega,by dsimp only;omega⟩ (Je _ (by dsimp only;omega));rintro L ⟨v,i⟩ ⟨E,hi,q⟩ H;dsimp only at E hi q H;unfold DG;dsimp only;rw[BJ];split
 .rename_i Q;refine Jq (fun x=>x.1.length=l.length/\a<=x.2/\x.2<=i) (fun x=>(x.2-a).toNat) (fun r:List α=>r.length=l.length) ?_ big (v,i) ⟨E,by dsimp only;omega,by dsimp only;omega⟩ (Je _ (by dsimp only;omega));rintro L' ⟨u,j⟩ ⟨e,S,B⟩ h;dsimp only at e S B h;have out:∀(u:List α),u.length=l.length->∃r,Dl cmp L i u=some r/\r.length=l.length:=by
   intro u e;unfold Dl;rw[A4 (by omega) (by omega)];exact H (u,i+1) ⟨e,by dsimp only;omega,by dsimp only;omega⟩ (by dsimp only;omega)
  unfold DH;dsimp only;rw[BJ];split
  .rename_i X;have G:w64 (j-1)=j-1:=A4 (by omega) (by omega);obtain⟨Z,q1⟩:=FG (l:=u) (i:=j) (by omega) (by omega);obtain⟨J,I⟩:=FG (l:=u) (i:=j-1) (by omega) (by omega);obtain⟨c,O⟩:=g Z J;obtain⟨x3,Y⟩:=FG (l:=List.set u j.toNat J) (i:=j-1) (by omega) (by rw[Am];omega);simp only[G,q1,I,AB,O,AT];unfold DF;rw[BJ];split
   .simp only[G,q1,I,Y,AB];exact h (_,j-1) ⟨by simp only[Am];exact e,by dsimp only;omega,by dsimp only;omega⟩ (by dsimp only;omega)
   .rw[AT];exact out u e
  .rw[AT];unfold DF;rw[BS,AT];exact out u e
 .exact⟨v,rfl,E⟩
theorem AC8{α:Type}{cmp:α->α->AA Int}{l:List α}{a b n:Int}(G:0<=a)(H:0<=b)(I:a+n<=l.length)(J:b+n<=l.length)(O:l.length<1099511627776):Ln l.length (Du cmp l a b n):=by
 unfold Du;refine Jq (fun x=>x.1.length=l.length/\0<=x.2) (fun x=>(n-x.2).toNat) (fun r:List α=>r.length=l.length) ?_ big (l,0) ⟨rfl,by dsimp only;omega⟩ (Je _ (by dsimp only;omega));rintro L ⟨v,i⟩ ⟨c,hi⟩ e;dsimp only at c hi e;unfold Kc;dsimp only;rw[BJ];split
 .rename_i q;have g:w64 (a+i)=a+i:=A4 (by omega) (by omega);have h:w64 (b+i)=b+i:=A4 (by omega) (by omega);have j:w64 (i+1)=i+1:=A4 (by omega) (by omega);obtain⟨Q,q1⟩:=FG (l:=v) (i:=a+i) (by omega) (by omega);obtain⟨E,y⟩:=FG (l:=v) (i:=b+i) (by omega) (by omega);obtain⟨S,B⟩:=FG (l:=List.set v (a+i).toNat E) (i:=b+i) (by omega) (by rw[Am];omega);simp only[g,h,j,q1,y,B,AB];exact e (_,i+1) ⟨by simp only[Am];exact c,by dsimp only;omega⟩ (by dsimp only;omega)
 .exact⟨v,rfl,c⟩
theorem AUe{α:Type}{cmp:α->α->AA Int}{l:List α}{a m b:Int}(I:0<=a)(J:a<m)(O:m<b)(Q:b<=l.length)(S:l.length<1099511627776):Ln l.length (HE cmp l a m b):=by
 unfold HE;rw[A4 (n:=m-a) (by omega) (by omega),A4 (n:=b-m) (by omega) (by omega)];refine Jq (fun x=>x.1.length=l.length/\0<x.2.1/\x.2.1<=m-a/\0<x.2.2/\x.2.2<=b-m) (fun x=>(x.2.1+x.2.2).toNat) (fun r:List α=>r.length=l.length) ?_ big (l,m-a,b-m) ⟨rfl,by dsimp only;omega,by dsimp only;omega,by dsimp only;omega,by dsimp only;omega⟩ (Je _ (by dsimp only;omega));rintro L ⟨v,i,j⟩ ⟨h,hi,y,H,B⟩ E;dsimp only at h hi y H B E;unfold Mu;dsimp only;have q:w64 (m-i)=m-i:=A4 (by omega) (by omega);have G:w64 (w64 (m+j)-i)=m+j-i:=by rw[A4 (n:=m+j) (by omega) (by omega)];exact A4 (by omega) (by omega)
 by_cases e:i=j
 .subst e;rw[show (i != i)=false from by simp,BS,AT];unfold Ms;obtain⟨r,g,c⟩:=AC8 (cmp:=cmp) (l:=v) (a:=m-i) (b:=m) (n:=i) (by omega) (by omega) (by omega) (by omega) (by omega);dsimp only;rw[q,g,AB];exact⟨r,rfl,c.trans h⟩
 .rw[show (i != j)=true from by simp[e],BP,BJ];split
  .obtain⟨r,g,c⟩:=AC8 (cmp:=cmp) (l:=v) (a:=m-i) (b:=m) (n:=j) (by omega) (by omega) (by omega) (by omega) (by omega);rw[q,g,AB,A4 (n:=i-j) (by omega) (by omega)];exact E (r,i-j,j) ⟨c.trans h,by dsimp only;omega,by dsimp only;omega,by dsimp only;omega,by dsimp only;omega⟩ (by dsimp only;omega)
  .obtain⟨r,g,c⟩:=AC8 (cmp:=cmp) (l:=v) (a:=m-i) (b:=m+j-i) (n:=i) (by omega) (by omega) (by omega) (by omega) (by omega);rw[q,G,g,AB,A4 (n:=j-i) (by omega) (by omega)];exact E (r,i,j-i) ⟨c.trans h,by dsimp only;omega,by dsimp only;omega,by dsimp only;omega,by dsimp only;omega⟩ (by dsimp only;omega)
def tp{α:Type}(k:Nat)(r:List α->Int->Int->Int->AA (List α)):Prop:=
 ∀(l:List α) (a m b:Int),0<=a->a<m->m<b->b<=l.length->l.length<1099511627776->b-a<=2 ^ k->Ln l.length (r l a m b)
theorem AJG{α:Type}{cmp:α->α->AA Int}{k:Nat}{r:List α->Int->Int->Int->AA (List α)}(B:tp k r){l:List α}{a m b s:Int}(L:0<=a)(O:a<m)(Q:m<b)(S:b<=l.length)(Y:l.length<1099511627776)(X:b-a<=2 ^ (k+1))
 (G:a<=s) (H:s<=(a+b) / 2) (I:s<=m) (J:(a+b) / 2+m-b<=s):Ln l.length (Hb cmp r l a m b s):=by
 have q:w64 (DV (IntKind.u64.wrap (w64 (a+b))) 1)=(a+b) / 2:=Wj (by omega) (by omega);have y:w64 (w64 ((a+b) / 2+m)-s)=(a+b) / 2+m-s:=by rw[A4 (n:=(a+b) / 2+m) (by omega) (by omega)];exact A4 (by omega) (by omega)
 have E:(2:Int) ^ (k+1)=2*2 ^ k:=by rw[Int.pow_succ];omega
 have c:∀v:List α,v.length=l.length->Ln l.length (Fa cmp r a m b s v):=by
  intro v h;unfold Fa Hf;rw[q,y,BJ];split
  .rw[AT,BJ];split
   .obtain⟨x,j,e⟩:Ln v.length (r v ((a+b) / 2) ((a+b) / 2+m-s) b):=B v ((a+b) / 2) ((a+b) / 2+m-s) b (by omega) (by omega) (by omega) (by omega) (by omega) (by omega);rw[j,AB];exact⟨x,rfl,e.trans h⟩
   .exact⟨v,rfl,h⟩
  .rw[AT,BS];exact⟨v,rfl,h⟩
 have g:∀v:List α,v.length=l.length->Ln l.length (FZ cmp r a m b s v):=by
  intro v h;unfold FZ He;rw[q,BJ];split
  .rw[AT,BJ];split
   .obtain⟨x,j,e⟩:Ln v.length (r v a s ((a+b) / 2)):=B v a s ((a+b) / 2) (by omega) (by omega) (by omega) (by omega) (by omega) (by omega);rw[j,AB,AT];exact c x (e.trans h)
   .rw[AT];exact c v h
  .rw[AT,BS,AT];exact c v h
 unfold Hb Hc;rw[q,y,BJ];split
 .rw[AT,BJ];split
  .obtain⟨x,j,e⟩:=AUe (cmp:=cmp) (l:=l) (a:=s) (m:=m) (b:=(a+b) / 2+m-s) (by omega) (by omega) (by omega) (by omega) (by omega);rw[j,AB,AT];exact g x e
  .rw[AT];exact g l rfl
 grind[AT,BS]
theorem AGa{α:Type}{cmp:α->α->AA Int}(g:∀x y,∃c,cmp x y=some c){k:Nat}{r:List α->Int->Int->Int->AA (List α)}(hr:tp k r):tp (k+1) (E2 cmp r):=by
 intro l a m b h0 h1 h2 h3 hl hk;show Ln l.length (E2 cmp r l a m b);have e0:w64 (DV (IntKind.u64.wrap (w64 (a+b))) 1)=(a+b) / 2:=Wj (by omega) (by omega);unfold E2;rw[A4 (n:=m-a) (by omega) (by omega)];by_cases c1:m-a=1
 .rw[show (m-a==1)=true from by simp[c1],BP];refine Jq (fun x=>m<=x.1/\x.1<=x.2/\x.2<=b) (fun x=>(x.2-x.1).toNat) (fun r:List α=>r.length=l.length) ?_ big (m,b) ⟨by dsimp only;omega,by dsimp only;omega,by dsimp only;omega⟩ (Je _ (by dsimp only;omega));rintro L ⟨i,j⟩ ⟨hi,H,X⟩ h;dsimp only at hi H X h;unfold K3;dsimp only;rw[BJ];split
  .have eh:w64 (DV (IntKind.u64.wrap (w64 (i+j))) 1)=(i+j) / 2:=Wj (by omega) (by omega);have e:w64 ((i+j) / 2+1)=(i+j) / 2+1:=A4 (by omega) (by omega);obtain⟨G,q1⟩:=FG (l:=l) (i:=(i+j) / 2) (by omega) (by omega);obtain⟨J,E⟩:=FG (l:=l) (i:=a) (by omega) (by omega);obtain⟨c,O⟩:=g G J;simp only[eh,e,q1,E,AB,O];rw[BJ];split
   .exact h ((i+j) / 2+1,j) ⟨by dsimp only;omega,by dsimp only;omega,by dsimp only;omega⟩ (by dsimp only;omega)
   .exact h (i,(i+j) / 2) ⟨by dsimp only;omega,by dsimp only;omega,by dsimp only;omega⟩ (by dsimp only;omega)
  .rw[AT];unfold Kz;refine Jq (fun x=>x.1.length=l.length/\a<=x.2) (fun x=>(i-1-x.2).toNat) (fun r:List α=>r.length=l.length) ?_ big (l,a) ⟨rfl,by dsimp only;omega⟩ (Je _ (by dsimp only;omega));rintro L' ⟨u,q⟩ ⟨I,Y⟩ B;dsimp only at I Y B;unfold K4 F5;dsimp only;rw[A4 (n:=i-1) (by omega) (by omega),BJ];split
   .have Q:w64 (q+1)=q+1:=A4 (by omega) (by omega);obtain⟨G,q1⟩:=FG (l:=u) (i:=q+1) (by omega) (by omega);obtain⟨J,E⟩:=FG (l:=u) (i:=q) (by omega) (by omega);obtain⟨x3,q3⟩:=FG (l:=List.set u q.toNat G) (i:=q+1) (by omega) (by rw[Am];omega);simp only[Q,q1,E,q3,AB];exact B (_,q+1) ⟨by simp only[Am];exact I,by dsimp only;omega⟩ (by dsimp only;omega)
   .rw[AT];exact⟨u,rfl,I⟩
 .rw[show (m-a==1)=false from by simp[c1],BS,AT];unfold K0;rw[A4 (n:=b-m) (by omega) (by omega)];by_cases c2:b-m=1
  .rw[show (b-m==1)=true from by simp[c2],BP];refine Jq (fun x=>a<=x.1/\x.1<=x.2/\x.2<=m) (fun x=>(x.2-x.1).toNat) (fun r:List α=>r.length=l.length) ?_ big (a,m) ⟨by dsimp only;omega,by dsimp only;omega,by dsimp only;omega⟩ (Je _ (by dsimp only;omega));rintro L ⟨i,j⟩ ⟨hi,H,X⟩ h;dsimp only at hi H X h;unfold K5;dsimp only;rw[BJ];split
   .have eh:w64 (DV (IntKind.u64.wrap (w64 (i+j))) 1)=(i+j) / 2:=Wj (by omega) (by omega);have e:w64 ((i+j) / 2+1)=(i+j) / 2+1:=A4 (by omega) (by omega);obtain⟨G,q1⟩:=FG (l:=l) (i:=(i+j) / 2) (by omega) (by omega);obtain⟨J,E⟩:=FG (l:=l) (i:=m) (by omega) (by omega);obtain⟨c,O⟩:=g J G;simp only[eh,e,q1,E,AB,O];cases S:decide (c<0)
    .rw[show (!false)=true from rfl,BP];exact h ((i+j) / 2+1,j) ⟨by dsimp only;omega,by dsimp only;omega,by dsimp only;omega⟩ (by dsimp only;omega)
    .rw[show (!true)=false from rfl,BS];exact h (i,(i+j) / 2) ⟨by dsimp only;omega,by dsimp only;omega,by dsimp only;omega⟩ (by dsimp only;omega)
   .rw[AT];unfold K1;refine Jq (fun x=>x.1.length=l.length/\x.2<=m/\i<=x.2) (fun x=>(x.2-i).toNat) (fun r:List α=>r.length=l.length) ?_ big (l,m) ⟨rfl,by dsimp only;omega,by dsimp only;omega⟩ (Je _ (by dsimp only;omega));rintro L' ⟨u,q⟩ ⟨I,Y,Z⟩ B;dsimp only at I Y Z B;unfold K6 F5;dsimp only;rw[BJ];split
    .have Q:w64 (q-1)=q-1:=A4 (by omega) (by omega);obtain⟨G,q1⟩:=FG (l:=u) (i:=q-1) (by omega) (by omega);obtain⟨J,E⟩:=FG (l:=u) (i:=q) (by omega) (by omega);obtain⟨x3,q3⟩:=FG (l:=List.set u q.toNat G) (i:=q-1) (by omega) (by rw[Am];omega);simp only[Q,q1,E,q3,AB];exact B (_,q-1) ⟨by simp only[Am];exact I,by dsimp only;omega,by dsimp only;omega⟩ (by dsimp only;omega)
    .rw[AT];exact⟨u,rfl,I⟩
  .rw[show (b-m==1)=false from by simp[c2],BS,AT];have key:∀s t:Int,a<=s->s<=t->t<=(a+b) / 2->t<=m->(a+b) / 2+m-b<=s->Ln l.length (FY cmp r l a m b (s,t)):=by
    intro s t p1 p2 p3 p4 p5;unfold FY;refine Jq (fun x=>a<=x.1/\x.1<=x.2/\x.2<=(a+b) / 2/\x.2<=m/\(a+b) / 2+m-b<=x.1) (fun x=>(x.2-x.1).toNat) (fun r:List α=>r.length=l.length) ?_ big (s,t) ⟨p1,p2,p3,p4,p5⟩ (Je _ (by dsimp only;omega));rintro L ⟨i,j⟩ ⟨g1,g2,g3,g4,g5⟩ h;dsimp only at g1 g2 g3 g4 g5 h;unfold Ke;dsimp only;rw[BJ];split
    .have eh:w64 (DV (IntKind.u64.wrap (w64 (i+j))) 1)=(i+j) / 2:=Wj (by omega) (by omega);have e:w64 ((i+j) / 2+1)=(i+j) / 2+1:=A4 (by omega) (by omega);have ep:w64 (w64 (w64 ((a+b) / 2+m)-1)-(i+j) / 2)=(a+b) / 2+m-1-(i+j) / 2:=by
      rw[A4 (n:=(a+b) / 2+m) (by omega) (by omega),A4 (n:=(a+b) / 2+m-1) (by omega) (by omega)];exact A4 (by omega) (by omega)
     obtain⟨G,q1⟩:=FG (l:=l) (i:=(i+j) / 2) (by omega) (by omega);obtain⟨J,E⟩:=FG (l:=l) (i:=(a+b) / 2+m-1-(i+j) / 2) (by omega) (by omega);obtain⟨c,O⟩:=g J G;simp only[e0,eh,e,ep,q1,E,AB,O];cases S:decide (c<0)
     .rw[show (!false)=true from rfl,BP];exact h ((i+j) / 2+1,j) ⟨by dsimp only;omega,by dsimp only;omega,by dsimp only;omega,by dsimp only;omega,by dsimp only;omega⟩ (by dsimp only;omega)
     .rw[show (!true)=false from rfl,BS];exact h (i,(i+j) / 2) ⟨by dsimp only;omega,by dsimp only;omega,by dsimp only;omega,by dsimp only;omega,by dsimp only;omega⟩ (by dsimp only;omega)
    .rw[AT];exact AJG hr h0 h1 h2 h3 hl hk g1 (by omega) (by omega) g5
   unfold K2;rw[e0,BJ];split
   .rw[AT,A4 (n:=(a+b) / 2+m) (by omega) (by omega),A4 (n:=(a+b) / 2+m-b) (by omega) (by omega)];exact key _ _ (by omega) (by omega) (by omega) (by omega) (by omega)
   .rw[AT];exact key _ _ (by omega) (by omega) (by omega) (by omega) (by omega)
theorem AAD{α:Type}{cmp:α->α->AA Int}(g:∀x y,∃c,cmp x y=some c){mrg:List α->Int->Int->Int->AA (List α)}(Q:∀(l:List α) (a m b:Int),0<=a->a<m->m<b->b<=l.length->l.length<=40->Ln l.length (mrg l a m b)){l:List α}(Y:l.length<=40):Ln l.length (Fi cmp mrg l (l.length:Int)):=by
 unfold Fi;have O:∀v:List α,v.length=l.length->Ln l.length (A7 (FM cmp mrg (l.length:Int)) big (v,20)):=by
  intro v X;refine Jq (fun x=>x.1.length=l.length/\(x.2=20\/x.2=40)) (fun x=>(40-x.2).toNat) (fun r:List α=>r.length=l.length) ?_ big (v,20) ⟨X,.inl rfl⟩ (Je _ (by dsimp only;omega));rintro L ⟨u,s⟩ ⟨j,S⟩ G;dsimp only at j S G;unfold FM;dsimp only;rw[BJ];split
  .have E:s=20:=by omega
   subst E;have out:∀w:List α,w.length=l.length->Ln l.length (G5 cmp mrg L 20 w):=by
    intro w B;unfold G5;rw[A4 (by omega) (by omega)];exact G (w,20*2) ⟨B,.inr rfl⟩ (by dsimp only;omega)
   rw[A4 (n:=2*20) (by omega) (by omega)];refine Jq (fun x=>x.1.length=l.length/\x.2.2=x.2.1+40/\(x.2.1=0\/x.2.1=40)) (fun x=>(40-x.2.1).toNat) (fun r:List α=>r.length=l.length) ?_ big (u,0,2*20) ⟨j,by dsimp only;omega,.inl rfl⟩ (Je _ (by dsimp only;omega));rintro L' ⟨w,a,b⟩ ⟨B,h,I⟩ H;dsimp only at B h I H;unfold Mw;dsimp only;rw[BJ];split
   .obtain⟨x,q,e⟩:=Q w a (a+20) b (by omega) (by omega) (by omega) (by omega) (by omega);rw[A4 (n:=a+20) (by omega) (by omega),q,AB,A4 (n:=2*20) (by omega) (by omega),A4 (n:=b+2*20) (by omega) (by omega)];exact H (x,b,b+2*20) ⟨e.trans B,by dsimp only;omega,by dsimp only;omega⟩ (by dsimp only;omega)
   .rw[AT];unfold Mv;dsimp only;rw[A4 (n:=a+20) (by omega) (by omega),BJ];split
    .obtain⟨x,q,e⟩:=Q w a (a+20) (l.length:Int) (by omega) (by omega) (by omega) (by omega) (by omega);rw[q,AB,AT];exact out x (e.trans B)
    .rw[AT];exact out w B
  .exact⟨u,rfl,j⟩
 have key:Ln l.length (A7 (FL cmp mrg (l.length:Int)) big (l,0,20)):=by
  refine Jq (fun x=>x.1.length=l.length/\0<=x.2.1/\x.2.1<=(l.length:Int)/\x.2.2=x.2.1+20) (fun x=>(60-x.2.1).toNat) (fun r:List α=>r.length=l.length) ?_ big (l,0,20) ⟨rfl,by dsimp only;omega,by dsimp only;omega,by dsimp only;omega⟩ (Je _ (by dsimp only;omega));rintro L ⟨u,a,b⟩ ⟨j,I,J,h⟩ G;dsimp only at j I J h G;unfold FL;dsimp only;rw[BJ];split
  .obtain⟨x,q,e⟩:=ASS g (l:=u) (a:=a) (b:=b) (by omega) (by omega) (by omega) (by omega);rw[q,AB,A4 (n:=b+20) (by omega) (by omega)];exact G (x,b,b+20) ⟨e.trans j,by dsimp only;omega,by dsimp only;omega,rfl⟩ (by dsimp only;omega)
  .rw[AT];unfold G4;dsimp only;obtain⟨x,q,e⟩:=ASS g (l:=u) (a:=a) (b:=(l.length:Int)) (by omega) (by omega) (by omega) (by omega);rw[q,AB];exact O x (e.trans j)
 exact key
theorem nL:∀k,tp (α:=Ae) k (fun l a m b=>(Zo k).d (l,a,m,b,(),()))
 |0=>by
  intro l a m b c e g j B q
  grind
 |k+1=>AGa (fun x y=>(Ps x y).imp fun _ h=>h.1) (nL k)
theorem y5{l:List Ae}{a m b:Int}(c:0<=a)(e:a<m)(g:m<b)(h:b<=l.length)(j:l.length<=40):Ln l.length (AJz l a m b):=
 nL 7 l a m b c e g h (by omega) (by have:(2:Int) ^ 7=128:=rfl;omega)
theorem jV{l:List Ae}(c:l.length<=40):Ln l.length (kf l):=by
 unfold kf ADv;obtain⟨x,e,a⟩:=AAD (fun x y=>(Ps x y).imp fun _ h=>h.1) (mrg:=AJz) (fun _ _ _ _=>y5) c;rw[e,AB];exact⟨x,rfl,a⟩
theorem AGZ:∀k,tp (α:=BB) k (fun l a m b=>(Zp k).d (l,a,m,b,(),()))
 |0=>by
  intro l a m b c e g j B q
  grind
 |k+1=>AGa (fun x y=>(NQ x y).imp fun _ h=>h.1) (AGZ k)
theorem AHR{l:List BB}{a m b:Int}(c:0<=a)(e:a<m)(g:m<b)(h:b<=l.length)(j:l.length<=40):Ln l.length (AJ0 l a m b):=
 AGZ 7 l a m b c e g h (by omega) (by have:(2:Int) ^ 7=128:=rfl;omega)
theorem tM{l:List BB}(c:l.length<=40):Ln l.length (kr l):=by
 unfold kr ADz;obtain⟨x,e,a⟩:=AAD (fun x y=>(NQ x y).imp fun _ h=>h.1) (mrg:=AJ0) (fun _ _ _ _=>AHR) c;rw[e,AB];exact⟨x,rfl,a⟩
end Lv.P
