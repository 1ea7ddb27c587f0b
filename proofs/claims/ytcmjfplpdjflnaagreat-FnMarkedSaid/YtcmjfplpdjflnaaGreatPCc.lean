/- Plain laws about what the program computes. -/
import Derived.Test.YtcmjfplpdjflnaaGreatPAc
set_option linter.unusedVariables false
set_option linter.unusedSimpArgs false
set_option linter.unusedSectionVars false
open Int renaming eq_ofNat_of_zero_le->Ac,tdiv_eq_ediv_of_nonneg->Gp,tmod_eq_emod_of_nonneg->Dx,toNat_natCast->Ah
open List renaming append_eq_nil_iff->Hw,cons_append->Em,drop_drop->DG,drop_eq_getElem_cons->G1,drop_eq_nil_iff->GA,drop_eq_nil_of_le->A5,drop_left->EV,drop_zero->Cu,flatMap_cons->Ca,getElem?_cons_zero->AM,getElem?_drop->Bq,getElem?_eq_getElem->AW,getElem?_eq_none->DU,length_append->AK,length_cons->AH,length_nil->AN,length_set->A8,nil_append->B8
open Nat renaming add_assoc->CT,div_lt_iff_lt_mul->Cp,lt_or_ge->AV,mod_eq_of_lt->KL,mul_le_mul_right->Aj,pow_le_pow_right->GD,pow_succ->HZ,xor_lt_two_pow->Dm,zero_add->Au
namespace Lv.P
open Go (IntKind BinOp UnOp)
@[simp] theorem cV(a b c:Int):Eb a b c=some (decide (b<=a/\a<=c)):=by
 grind[Eb,bw,BL,AR]
@[simp] theorem QX(a b c:Int):C4 a b c=some (decide (b<=a/\a<=c)):=by
 grind[C4,V8,BL,AR]
def FO(n:Nat):List UInt8:=if n<128 then [UInt8.ofNat n] else UInt8.ofNat (n % 128+128)::FO (n / 128)
decreasing_by omega
def pN(n:Int):List UInt8:=if 0<=n/\n<=2147483647 then FO n.toNat else []
theorem Ol{n:Nat}(h:n<128):FO n=[UInt8.ofNat n]:=by rw[FO,AX h]
theorem UA{n:Nat}(h:128<=n):FO n=UInt8.ofNat (n % 128+128)::FO (n / 128):=by rw[FO,AU (by omega)]
theorem IG(n:Nat):0<(FO n).length:=by rw[FO];split<;>simp
theorem bG:∀(k n:Nat),n<128 ^ (k+1)->(FO n).length<=k+1
 |0,n,h=>by rw[Ol (by simpa using h)];simp|k+1,n,h=>by
  rcases AV n 128 with a|a
  .rw[Ol a];simp
  .rw[UA a];have:=bG k (n / 128) (by rw[Cp (by omega)];rw[HZ]at h;exact h);simp only[AH];omega
theorem KT{n:Nat}(h:n<=2147483647):(FO n).length<=5:=bG 4 n (by omega)
theorem PL(n:Int):(pN n).length<=5:=by unfold pN;split
                                       .exact KT (by omega)
                                       .simp
theorem AJQ{F:(Int×List UInt8->AA (List UInt8))->Int×List UInt8->AA (List UInt8)}
 (hF:∀L n acc,F L (n,acc)=if n<128 then gd (acc.length+1<=lim) (some (acc++[toB n])) else gd (acc.length+1<=lim) (L (w64 (Int.tdiv n 128),acc++[toB (w64 (Int.tmod n 128+128))])))
 {n:Nat} (q:n<=2147483647):BB F big ((n:Int),[])=some (FO n):=by
 have:=Zd (F:=F) (x:=((n:Int),[])) (fun x=>some (x.2++FO x.1.toNat)) (fun x=>0<=x.1/\x.1<=2147483647/\x.2.length+(FO x.1.toNat).length<=5) (fun x=>x.1.toNat) ?_ ?_ ?_
 .simpa using this
 .rintro L ⟨m,acc⟩ ⟨a,j,c⟩ hL;dsimp only at a j c hL ⊢;obtain⟨m,rfl⟩:=Ac a;rw[hF];simp only[Ah]at c hL ⊢;have hlim:acc.length+1<=lim:=by have:=IG m;unfold lim;omega
  by_cases h:m<128
  .rw[AX (by omega),B6 hlim,Ol h,AJj (by omega)]
  .have e:Int.tdiv (m:Int) 128=((m / 128:Nat):Int):=by
    rw[Gp (by omega)];rfl
   have g:Int.tmod (m:Int) 128+128=((m % 128+128:Nat):Int):=by
    rw[Dx (by omega)];omega
   have y:=UA (n:=m) (by omega);rw[AU (by omega),B6 hlim,e,g,A6 (by omega) (by omega),A6 (by omega) (by omega),AJj (by omega)]
   grind
 .refine⟨by dsimp only;omega,by dsimp only;omega,?_⟩;have:=KT q;simpa using this
 .dsimp only;omega
@[simp] theorem TW(n:Int):eY n=some (pN n):=by
 unfold eY pN;simp only[cV,AB,BP,BL];split
 .rename_i h;obtain⟨m,rfl⟩:=Ac h.1;refine AJQ (fun L n acc=>?_) (by omega);unfold zG zF;simp only[BL,AR,AH,AN,Au];by_cases h:n>127
  .grind
  .rw[AU h,AX (by omega)]
 .rfl
@[simp] theorem KQ(n:Int):WC n=some (pN n):=by
 unfold WC pN;simp only[QX,AB,BP,BL];split
 .rename_i h;obtain⟨m,rfl⟩:=Ac h.1;refine AJQ (fun L n acc=>?_) (by omega);unfold yr yq;simp only[BL,AR,AH,AN,Au];by_cases h:n>=128
  .grind
  .rw[AU h,AX (by omega)]
 .rfl
def rdN:Nat->Nat->Nat->List UInt8->AA (Nat×Nat)
 |0,_,_,_=>none|_+1,_,_,[]=>none|f+1,k,a,d::l=>
  if d.toNat<128 then (if (0<k/\d.toNat=0)\/2147483647<a+(d.toNat % 128)*2 ^ (7*k) then none else some (a+(d.toNat % 128)*2 ^ (7*k),k+1))
  else rdN f (k+1) (a+(d.toNat % 128)*2 ^ (7*k)) l
def tW(at_:Nat):AA (Nat×Nat)->Int×Int×Bool|some (n,m)=>((n:Int),((at_+m:Nat):Int),true)|none=>(0,0,false)
def gN(b:List UInt8)(i:Int):Int×Int×Bool:=if 0<=i/\i<b.length then tW i.toNat (rdN 5 0 0 (b.drop i.toNat)) else (0,0,false)
theorem ACw{c s:Nat}(g:c<128)(a:s<=28):nO (c:Int) (s:Int)=((c*2 ^ s:Nat):Int):=by
 have e:c*2 ^ s<2 ^ 35:=by
  have:2 ^ s<=2 ^ 28:=GD (by omega) a
  calc c*2 ^ s<=127*2 ^ 28:=Nat.mul_le_mul (by omega) this
   _<2 ^ 35:=by decide
 grind[IntKind.bits,UJ]
theorem QE{n:Nat}(h:n<2 ^ 63):(BitVec.ofInt IntKind.i64.bits (n:Int)).toNat=n:=by
 simp only[IntKind.bits,BitVec.toNat_ofInt];omega
theorem AVN{a b:Nat}(c:a<2 ^ 63)(e:b<2 ^ 63):orI (a:Int) (b:Int)=((a |||b:Nat):Int):=by
 unfold orI;rw[BitVec.toNat_or,QE c,QE e];have:a |||b<2 ^ 63:=Nat.or_lt_two_pow c e;rw[UJ (by omega) (by omega)]
theorem AXU{a c s:Nat}(e:a<2 ^ s):a |||c*2 ^ s=a+c*2 ^ s:=by
 have:=Nat.two_pow_add_eq_or_of_lt e c;rw[Nat.or_comm,Nat.mul_comm,<-this,Nat.add_comm]
theorem ACS:∀(k n:Nat),n<128 ^ (k+1)->((FO n).length=k+1↔k=0\/128 ^ k<=n)
 |0,n,h=>by rw[Ol (by simpa using h)];simp|k+1,n,h=>by
  rcases AV n 128 with a|a
  .grind[Ol]
  .rw[UA a];have c:n / 128<128 ^ (k+1):=by rw[Cp (by omega)];rw[HZ]at h;exact h
   have:=ACS k (n / 128) c;have e:128 ^ k<=n / 128↔128 ^ (k+1)<=n:=by rw[Nat.le_div_iff_mul_le (by omega),HZ]
   grind
theorem AXY(k:Nat):(2:Nat) ^ (7*k)=128 ^ k:=by rw[Nat.pow_mul]
theorem digit{a k c:Nat}(j:k<5)(g:a<128 ^ k)(h:c<128):a+c*2 ^ (7*k)<128 ^ (k+1)/\a+c*2 ^ (7*k)<2 ^ 35:=by
 rw[AXY];have e:a+c*128 ^ k<128 ^ (k+1):=by
  have:c*128 ^ k<=127*128 ^ k:=Aj _ (by omega);rw[HZ];omega
 refine⟨e,Nat.lt_of_lt_of_le e ?_⟩
 calc 128 ^ (k+1)<=128 ^ 5:=GD (by omega) (by omega)
  _=2 ^ 35:=by decide
theorem QR{b:List UInt8}(I:b.length<2 ^ 62){i:Nat}(hi:i<2 ^ 62):∀(f k a n:Nat),f+k=5->f<n->a<128 ^ k ->
 BB (Pq b i) n ((a:Int),(k:Int))=some (tW i (rdN f k a (b.drop (i+k))))
 |0,k,a,n,Q,X,g=>by
  obtain⟨n,rfl⟩:∃m,n=m+1:=⟨n-1,by omega⟩;rw[Dy];unfold Pq zt;simp only[BL,AR];rw[AU (by omega)];rfl
 |f+1,k,a,n,Q,X,g=>by
  obtain⟨n,rfl⟩:∃m,n=m+1:=⟨n-1,by omega⟩;rw[Dy];generalize hL:BB (Pq b i) n=L;unfold Pq;simp only[BL,AR];rw[AX (by omega),AU (by omega)];unfold WW WX;simp only[BL,AR,BJ,Bn,ge_iff_le,beq_iff_eq,decide_eq_true_eq];rw[A6 (n:=(b.length:Int)-k) (by omega) (by omega)];cases e:b.drop (i+k) with
  |nil=>
   have:b.length<=i+k:=GA.1 e;rw[AX (by omega)];rfl
  |cons d l=>
   have S:i+k<b.length:=by
    rcases AV (i+k) b.length with h|h
    .exact h
    .rw[A5 h]at e;cases e
   have J:b[i+k]?=some d:=by
    have:=Bq (xs:=b) (i:=i+k) (j:=0);rw[e]at this;simpa using this.symm
   have q:b.drop (i+(k+1))=l:=by
    rw[<-CT,<-DG,e];rfl
   rw[AU (by omega),A6 (n:=(i:Int)+k) (by omega) (by omega),show (i:Int)+k=((i+k:Nat):Int) from by push_cast;rfl,Jz,J,AB];have O:d.toNat<256:=d.toNat_lt;have G:w64 (7*(k:Int))=((7*k:Nat):Int):=by rw[A6 (by omega) (by omega)];push_cast;rfl
   have ed:w64 ((d.toNat:Nat):Int)=(d.toNat:Int):=A6 (by omega) (by omega);have em:Int.tmod (d.toNat:Int) 128=((d.toNat % 128:Nat):Int):=by rw[Dx (by omega)];rfl
   obtain⟨B,Y⟩:=digit (a:=a) (k:=k) (c:=d.toNat % 128) (by omega) g (by omega);have y:orI (a:Int) (nO ((d.toNat % 128:Nat):Int) ((7*k:Nat):Int))=((a+(d.toNat % 128)*2 ^ (7*k):Nat):Int):=by
    rw[ACw (by omega) (by omega)];rw[AVN (by have:=GD (n:=128) (by omega) (show k<=5 by omega);omega) (by omega),AXU (by rw[AXY];exact g)]
   rw[G,B6 (by omega),ed,em,y];simp only[rdN];have E:w64 ((k:Int)+1)=((k+1:Nat):Int):=A6 (by omega) (by omega);by_cases H:d.toNat<128
   .grind[tW,Prod.mk.injEq,A6]
   .rw[AU (by omega),AU H,E,<-hL,QR I hi f (k+1) _ n (by omega) (by omega) B,q]
theorem P4{b:List UInt8}(Q:b.length<2 ^ 62){i:Nat}(hi:i<2 ^ 62):∀(f k a n:Nat),f+k=5->f<n->a<128 ^ k ->
 BB (SO b i) n ((a:Int),(k:Int))=some (tW i (rdN f k a (b.drop (i+k))))
 |0,k,a,n,Y,hn,G=>by
  obtain⟨n,rfl⟩:∃m,n=m+1:=⟨n-1,by omega⟩;rw[Dy];unfold SO WR fI;simp only[BL,AR];rw[AU (by omega)];rfl
 |f+1,k,a,n,Y,hn,G=>by
  obtain⟨n,rfl⟩:∃m,n=m+1:=⟨n-1,by omega⟩;rw[Dy];generalize hL:BB (SO b i) n=L;unfold SO;simp only[BL,AR];rw[AX (by omega)];unfold WR fI;simp only[BL,AR,Bn,bne_iff_ne,KQ,AB,decide_eq_true_eq];rw[A6 (n:=(i:Int)+k) (by omega) (by omega),show (i:Int)+k=((i+k:Nat):Int) from by push_cast;rfl];cases e:b.drop (i+k) with
  |nil=>
   have:b.length<=i+k:=GA.1 e;rw[AU (by omega)];rfl
  |cons d l=>
   have hlt:i+k<b.length:=by
    rcases AV (i+k) b.length with h|h
    .exact h
    .rw[A5 h]at e;cases e
   have S:b[i+k]?=some d:=by
    have:=Bq (xs:=b) (i:=i+k) (j:=0);rw[e]at this;simpa using this.symm
   have y:b.drop (i+(k+1))=l:=by
    rw[<-CT,<-DG,e];rfl
   rw[AX (by omega),Jz,S,AB];have X:d.toNat<256:=d.toNat_lt;have J:w64 (7*(k:Int))=((7*k:Nat):Int):=by rw[A6 (by omega) (by omega)];push_cast;rfl
   have ed:w64 ((d.toNat:Nat):Int)=(d.toNat:Int):=A6 (by omega) (by omega);have em:Int.tmod (d.toNat:Int) 128=((d.toNat % 128:Nat):Int):=by rw[Dx (by omega)];rfl
   obtain⟨q,hs2⟩:=digit (a:=a) (k:=k) (c:=d.toNat % 128) (by omega) G (by omega);have B:w64 ((a:Int)+(nO ((d.toNat % 128:Nat):Int) ((7*k:Nat):Int)))=((a+(d.toNat % 128)*2 ^ (7*k):Nat):Int):=by
    rw[ACw (by omega) (by omega),A6 (by omega) (by omega)];push_cast;rfl
   rw[J,B6 (by omega),ed,em,B];simp only[rdN,KQ,AB];have I:w64 ((k:Int)+1)=((k+1:Nat):Int):=A6 (by omega) (by omega);rw[I];by_cases E:d.toNat<128
   .rw[AX (by omega),AX E];have g:128 ^ k<=a+(d.toNat % 128)*2 ^ (7*k)↔d.toNat≠0:=by
     rw[AXY];constructor
     .rintro h O;rw[O]at h;simp at h;omega
     .intro h;have:1*128 ^ k<=d.toNat % 128*128 ^ k:=Aj _ (by omega);omega
    have H:((pN ((a+(d.toNat % 128)*2 ^ (7*k):Nat):Int)).length:Int)≠((k+1:Nat):Int)↔(0<k/\d.toNat=0)\/2147483647<a+(d.toNat % 128)*2 ^ (7*k):=by
     unfold pN;split
     .rename_i Z;rw[Ah];have:=ACS k _ q;rw[g]at this;rw[Ne,Int.ofNat_inj,this];omega
     .simp only[AN];omega
    grind[tW,A6]
   .rw[AU (by omega),AU E,<-hL,P4 Q hi f (k+1) _ n (by omega) (by omega) q,y]
theorem Oq{b:List UInt8}(c:b.length<2 ^ 62)(i:Int)(hi:i<2 ^ 62):fk b i=some (gN b i):=by
 unfold fk gN;by_cases a:0<=i
 .obtain⟨j,rfl⟩:=Ac a;have:=QR c (i:=j) (by omega) 5 0 0 big (by omega) (Ie _ (by omega)) (by omega);refine Eq.trans this ?_;simp only[Ah,Nat.add_zero];split
  .rfl
  .rw[A5 (by omega)];rfl
 .obtain⟨n,e⟩:=Pb 0 (by omega)
  grind[Dy,Pq,WW,BL,AR]
theorem Of{b:List UInt8}(c:b.length<2 ^ 62)(i:Int):fH b i=some (gN b i):=by
 unfold fH gN;simp only[QX,AB,BP,BL];rw[A6 (by omega) (by omega)];by_cases a:0<=i/\i<b.length
 .obtain⟨j,rfl⟩:=Ac a.1;rw[AX (by omega),AX a];have:=P4 c (i:=j) (by omega) 5 0 0 big (by omega) (Ie _ (by omega)) (by omega)
  grind
 grind
theorem AWU{n:Nat}(h:n<256):(UInt8.ofNat n).toNat=n:=by simp;omega
theorem xC:∀(f k a n:Nat) (l:List UInt8),(FO n).length<=f->(k=0\/n≠0)->a+n*2 ^ (7*k)<=2147483647->rdN f k a (FO n++l)=some (a+n*2 ^ (7*k),k+(FO n).length)
 |0,k,a,n,l,h,_,_=>by have:=IG n;omega|f+1,k,a,n,l,h,q,j=>by
  rcases AV n 128 with c|c
  .rw[Ol c];simp only[Em,B8,rdN,AH,AN];rw[AWU (by omega),AX c,KL c,AU (by omega)]
  .rw[UA c]at h ⊢;simp only[Em,rdN,AH]at h ⊢;rw[AWU (by omega),AU (by omega)];have e:(n % 128+128) % 128=n % 128:=by omega
   have g:a+n % 128*2 ^ (7*k)+n / 128*2 ^ (7*(k+1))=a+n*2 ^ (7*k):=by
    grind[Nat.mod_add_div]
   rw[e,xC f (k+1) _ (n / 128) l (by omega) (by omega) (by rw[g];exact j),g];congr 2;omega
theorem cj:∀(f k a:Nat) (l:List UInt8) (N m:Nat),rdN f k a l=some (N,m)->∃n l',l=FO n++l'/\N=a+n*2 ^ (7*k)/\m=k+(FO n).length/\(k=0\/n≠0)/\N<=2147483647
 |0,k,a,l,N,m,h=>by cases h
 |f+1,k,a,[],N,m,h=>by cases h
 |f+1,k,a,d::l,N,m,h=>by
  have y:d.toNat<256:=d.toNat_lt;simp only[rdN]at h;split at h
  .rename_i e;split at h
   .cases h
   .rename_i B;cases h;refine⟨d.toNat,l,?_,?_,?_,by omega,by omega⟩
    .rw[Ol e];simp
    .rw[KL e]
    .rw[Ol e];rfl
  .rename_i e;obtain⟨n,l',g,E,j,G,q⟩:=cj f (k+1) _ l N m h;have H:n≠0:=by omega
   have c:128<=d.toNat % 128+128*n:=by omega
   refine⟨d.toNat % 128+128*n,l',?_,?_,?_,.inr (by omega),q⟩
   .rw[UA c,show (d.toNat % 128+128*n) % 128+128=d.toNat by omega,show (d.toNat % 128+128*n) / 128=n by omega,g];simp
   .grind
   .rw[UA c,show (d.toNat % 128+128*n) / 128=n by omega,j];simp only[AH];omega
def rdL:Nat->List UInt8->AA (List Int)
 |0,_=>none|f+1,[]=>some []|f+1,l=>match rdN 5 0 0 l with|some (n,m)=>(rdL f (l.drop m)).map ((n:Int)::·)|none=>none
def okN(n:Int):Prop:=0<=n/\n<=2147483647
def pL(l:List Int):List UInt8:=l.flatMap pN
theorem AR3{n:Int}(h:okN n):pN n=FO n.toNat:=by unfold pN;rw[AX (show 0<=n/\n<=2147483647 from h)]
theorem wu{n:Int}(h:okN n):0<(pN n).length:=by rw[AR3 h];exact IG _
theorem AXb{n:Int}(h:okN n)(l:List UInt8):rdN 5 0 0 (pN n++l)=some (n.toNat,(pN n).length):=by
 rw[AR3 h,xC 5 0 0 n.toNat l (KT (by have:=h.2;omega)) (.inl rfl) (by have:=h.2;simp;omega)];simp
theorem xB:∀(l:List Int) (f:Nat),(∀n∈l,okN n)->(pL l).length<f->rdL f (pL l)=some l
 | [],f,_,h=>by
  obtain⟨f,rfl⟩:∃g,f=g+1:=⟨f-1,by omega⟩;rfl
 |n::l,f,j,h=>by
  obtain⟨f,rfl⟩:∃g,f=g+1:=⟨f-1,by omega⟩;have a:=j n (by simp);have q:=wu a;have e:pL (n::l)=pN n++pL l:=by simp[pL]
  rw[e]at h ⊢;have c:pN n++pL l≠[]:=by intro h;rw[Hw]at h;rw[h.1]at q;simp at q
  rw[rdL.eq_3 _ _ (by simpa using c),AXb a];simp only[EV];rw[xB l f (fun m y=>j m (by simp[y])) (by rw[AK]at h;omega)];simp only[Option.map_some,Int.toNat_of_nonneg a.1]
theorem Xu:∀(f:Nat) (s:List UInt8) (l:List Int),rdL f s=some l->s=pL l/\∀n∈l,okN n
 |0,s,l,h=>by cases h
 |f+1,[],l,h=>by cases h;exact⟨rfl,by simp⟩
 |f+1,d::s,l,h=>by
  rw[rdL.eq_3 _ _ (by simp)]at h;split at h
  .rename_i n m B;obtain⟨H,l',c,e,g,_,G⟩:=cj _ _ _ _ _ _ B;simp only[Nat.mul_zero,Nat.pow_zero,Nat.mul_one,Au]at e g;subst e g;rw[Option.map_eq_some_iff]at h;obtain⟨E,j,rfl⟩:=h;rw[c,EV]at j;obtain⟨q,y⟩:=Xu f l' E j;refine⟨?_,?_⟩
   .rw[c,q];simp only[pL,Ca];rw[AR3 ⟨by omega,by omega⟩];simp
   .intro x a;rcases List.mem_cons.1 a with rfl|a
    .exact⟨by omega,by omega⟩
    .exact y x a
  .cases h
def AFq:AA (List Int)->List Int×Bool|some l=>(l,true)|none=>([],false)
theorem mA{b:List UInt8}(y:b.length<=1048576){G:List UInt8->Int->AA (Int×Int×Bool)}(hG:∀i:Int,i<2 ^ 62->G b i=some (gN b i))
 {F:(List Int×Int->AA (List Int×Bool))->List Int×Int->AA (List Int×Bool)}
 (hF:∀L acc i,F L (acc,i)=if i<(b.length:Int) then bd (G b i) fun x=>br (!x.2.2) (some ([],false)) (gd (acc.length+1<=lim) (L (acc++[x.1],x.2.1))) else some (acc,true)) :
 ∀(f i n:Nat) (acc:List Int),b.length<f+i->f<=n->acc.length<=i->i<=b.length->BB F n (acc,(i:Int))=some (match rdL f (b.drop i) with|some l=>(acc++l,true)|none=>([],false))
 |0,i,n,acc,e,g,j,q=>by omega|f+1,i,n,acc,e,g,j,q=>by
  obtain⟨n,rfl⟩:∃m,n=m+1:=⟨n-1,by omega⟩;rw[Dy,hF];by_cases hi:i<b.length
  .rw[AX (by omega),hG _ (by omega),AB];unfold gN;rw[AX (by omega),Ah];have c:b.drop i≠[]:=by intro h;rw[GA]at h;omega
   rw[rdL.eq_3 _ _ (by simpa using c)];cases B:rdN 5 0 0 (b.drop i) with
   |none=>rfl|some p=>
    obtain⟨v,m⟩:=p;obtain⟨H,l',E,J,O,_,_⟩:=cj _ _ _ _ _ _ B;have I:0<m:=by have:=IG H;omega
    have a:i+m<=b.length:=by
     have:=congrArg List.length E;rw[List.length_drop,AK]at this;omega
    simp only[tW,BP,BJ];rw[B6 (by unfold lim;omega),mA y hG hF f (i+m) n (acc++[(v:Int)]) (by omega) (by omega) (by rw[AK];simp;omega) a,<-DG]
    grind
  .rw[AU (by omega),A5 (by omega)];simp[rdL]
theorem YK{b:List UInt8}(a:b.length<=1048576):zO b=some (AFq (rdL (b.length+1) b)):=by
 unfold zO;have:=mA a (G:=fk) (F:=fG b) (fun i hi=>Oq (by omega) i hi) (fun L acc i=>by unfold fG zP;simp only[BL,AR];rfl) (b.length+1) 0 big [] (by omega) (by have:=Qg;omega) (by simp) (by omega);refine Eq.trans this ?_;simp only[Cu,B8];cases rdL (b.length+1) b<;>rfl
theorem XY{b:List UInt8}(a:b.length<=1048576):zQ b=some (AFq (rdL (b.length+1) b)):=by
 unfold zQ;have:=mA a (G:=fH) (F:=fJ b) (fun i hi=>Of (by omega) i) (fun L acc i=>by unfold fJ zR;simp only[BL,AR];rfl) (b.length+1) 0 big [] (by omega) (by have:=Qg;omega) (by simp) (by omega);refine Eq.trans this ?_;simp only[Cu,B8];cases rdL (b.length+1) b<;>rfl
theorem lg{l:List Int}(h:l.length<=10000000){G:Int->AA (List UInt8)}(hG:∀n,G n=some (pN n))
 {F:(List UInt8×Int->AA (List UInt8))->List UInt8×Int->AA (List UInt8)}
 (hF:∀L acc i,F L (acc,i)=if i<(l.length:Int) then bd (at? l i) fun x=>bd (G x) fun y=>gd (acc.length+y.length<=lim) (L (acc++y,w64 (i+1))) else some acc) :
 ∀(f i n:Nat) (acc:List UInt8),l.length<f+i->f<=n->acc.length<=5*i->i<=l.length->BB F n (acc,(i:Int))=some (acc++pL (l.drop i))
 |0,i,n,acc,a,c,e,g=>by omega|f+1,i,n,acc,a,c,e,g=>by
  obtain⟨n,rfl⟩:∃m,n=m+1:=⟨n-1,by omega⟩;rw[Dy,hF];by_cases hi:i<l.length
  .rw[AX (by omega),Jz,AW hi,AB,hG,AB];have:=PL l[i];rw[B6 (by unfold lim;omega),A6 (by omega) (by omega)];have:=lg h hG hF f (i+1) n (acc++pN l[i]) (by omega) (by omega) (by rw[AK];omega) hi;refine Eq.trans this ?_;rw[G1 hi];simp only[pL,Ca,List.append_assoc]
  .rw[AU (by omega),A5 (by omega)];simp[pL]
theorem YJ{l:List Int}(a:l.length<=10000000):aO l=some (pL l):=by
 unfold aO;have:=lg a (G:=eY) (F:=eZ l) TW (fun L acc i=>by unfold eZ zH;simp only[BL,AR]) (l.length+1) 0 big [] (by omega) (by have:=Qg;omega) (by simp) (by omega);simpa using this
theorem XZ{l:List Int}(a:l.length<=10000000):yt l=some (pL l):=by
 unfold yt;have:=lg a (G:=WC) (F:=dx l) KQ (fun L acc i=>by unfold dx yu;simp only[BL,AR]) (l.length+1) 0 big [] (by omega) (by have:=Qg;omega) (by simp) (by omega);simpa using this
def fld(n:Int):Bool:=decide (0<=n/\n<=9999)
def Hq(q:B1):Bool:=
 if q.Kind=1 then fld q.Id&&fld q.Aa&&decide (-1<=q.Bl/\q.Bl<=9999)&&fld q.BC&&fld q.Cs
 else if q.Kind=2\/q.Kind=4\/q.Kind=5\/q.Kind=7 then fld q.Id&&(q.Aa==0&&(q.Bl==0&&(q.BC==0&&q.Cs==0)))
 else if q.Kind=3 then fld q.Aa&&fld q.BC&&(q.Id==0&&(q.Bl==0&&q.Cs==0))
 else if q.Kind=6 then q.Id==0&&(q.Aa==0&&(q.Bl==0&&(q.BC==0&&q.Cs==0)))
 else false
def Ey(q:B1):List Int:=
 if q.Kind=1 then [q.Kind,q.Id,q.Aa,q.Bl+1,q.BC,q.Cs]
 else if q.Kind=3 then [q.Kind,q.Aa,q.BC]
 else if q.Kind=6 then [q.Kind]
 else [q.Kind,q.Id]
def HK(q:B1):List UInt8:=if Hq q then pL (Ey q) else []
@[simp] theorem AF8(n:Int):bX n=some (fld n):=by unfold bX fld;simp
@[simp] theorem AFB(n:Int):Rk n=some (fld n):=by unfold Rk fld;simp
theorem AF7(q:B1):sW q=some (Hq q):=by
 obtain⟨k,a,b,c,d,e⟩:=q;unfold sW Ig Tj Ig Hq;simp only[Bn,AR,AF8,AB,cV,beq_iff_eq]
 grind
theorem AFA(q:B1):aN q=some (Hq q):=by
 obtain⟨k,a,b,c,d,e⟩:=q;unfold aN G2 Pl G2 Hq;simp only[Bn,AR,AFB,AB,QX,beq_iff_eq]
 grind
theorem I9{q:B1}(h:Hq q=true):(q.Kind=1/\(0<=q.Id/\q.Id<=9999)/\(0<=q.Aa/\q.Aa<=9999)/\(-1<=q.Bl/\q.Bl<=9999)/\(0<=q.BC/\q.BC<=9999)/\(0<=q.Cs/\q.Cs<=9999)) \/
 ((q.Kind=2\/q.Kind=4\/q.Kind=5\/q.Kind=7)/\(0<=q.Id/\q.Id<=9999)/\q.Aa=0/\q.Bl=0/\q.BC=0/\q.Cs=0) \/
 (q.Kind=3/\(0<=q.Aa/\q.Aa<=9999)/\(0<=q.BC/\q.BC<=9999)/\q.Id=0/\q.Bl=0/\q.Cs=0) \/
 (q.Kind=6/\q.Id=0/\q.Aa=0/\q.Bl=0/\q.BC=0/\q.Cs=0):=by
 unfold Hq fld at h;split at h
 .grind
 split at h
 .grind
 split at h
 .grind
 grind
theorem mE{q:B1}(h:Hq q=true):∀n∈Ey q,okN n:=by
 grind[I9,Ey,okN]
theorem bH(q:B1):0<(Ey q).length/\(Ey q).length<=6:=by
 grind[Ey]
theorem Up{q:B1}:zk q=some (HK q):=by
 unfold zk HK;rw[AF7,AB,BP,Bn]
 grind[Hq,Ey,Bn,A6,YJ,AB]
theorem nJ{q:B1}:AG9 q=some (HK q):=by
 grind[AG9,SP,HK,AFA,AB,Bn,Hq,Ey,AR,B6,lim,A6,XZ]
theorem TL{n:Int}{l:List Int}(h:okN n):pL (n::l)≠[]:=by
 intro a;have:=wu h;simp only[pL,Ca,Hw]at a
 grind
theorem AJZ{q:B1}(h:Hq q=true):HK q≠[]:=by
 grind[HK,mE,Ey,TL]
theorem AR2:∀l:List Int,(pL l).length<=5*l.length
 | []=>by simp[pL]|n::l=>by
  have c:=PL n;have a:=AR2 l;simp only[pL,Ca,AK,AH]at a ⊢;omega
theorem ATO(q:B1):(HK q).length<=30:=by
 grind[HK,AR2,bH]
theorem QN{q:B1}(h:Hq q=true)(f:Nat)(a:(HK q).length<f):rdL f (HK q)=some (Ey q):=by
 grind[HK,xB,mE]
noncomputable def OB(s:List UInt8):B1×Bool:=open Classical in if h:∃q,Hq q=true/\HK q=s then (h.choose,true) else (⟨0,0,0,0,0,0⟩,false)
theorem ACj{q q':B1}(h:Hq q=true)(a:Hq q'=true)(c:Ey q=Ey q'):q=q':=by
 grind[B1,Ey,I9]
theorem ATN{q q':B1}(h:Hq q=true)(a:Hq q'=true)(e:HK q=HK q'):q=q':=by
 have c:=QN h ((HK q).length+1) (by omega)
 grind[QN,ACj]
theorem ATP{q:B1}(h:Hq q=true):OB (HK q)=(q,true):=by
 unfold OB;have a:∃q',Hq q'=true/\HK q'=HK q:=⟨q,h,rfl⟩
 grind[ATN]
theorem Lg{s:List UInt8}(h:∀q,Hq q=true->HK q≠s):OB s=(⟨0,0,0,0,0,0⟩,false):=by
 grind[OB]
theorem sF{γ:Type}(a b:List UInt8)(x y:AA γ):br (a != b) x y=if a=b then y else x:=by
 unfold br
 grind[grind]
theorem bc(s:List UInt8)(q:B1):Pn s q=if HK q=s then some (q,true) else some (⟨0,0,0,0,0,0⟩,false):=by
 unfold Pn;rw[Up,AB,sF]
theorem bY(s:List UInt8)(q:B1):Po s q=if HK q=[]\/HK q≠s then some (⟨0,0,0,0,0,0⟩,false) else some (q,true):=by
 grind[Po,fK,nJ,AB,AR,BJ,HK,Bn]
theorem KW{s:List UInt8}{q:B1}(a:s≠[])(h:∀q',Hq q'=true->HK q'=s->q'=q):(if HK q=s then some (q,true) else some (⟨0,0,0,0,0,0⟩,false))=some (OB s):=by
 grind[HK,Hq,ATP,Lg]
theorem qY{s:List UInt8}{f:Nat}(h:rdL f s=none)(a:s.length<f):∀q,Hq q=true->HK q≠s:=by
 grind[QN]
theorem YG{s:List UInt8}(S:s.length<=1048576):oJ s=some (OB s):=by
 unfold oJ;rw[BL];by_cases H:(s.length:Int)>60
 .rw[AX H,Lg];rintro q _ rfl;have:=ATO q;omega
 rw[AU H,YK S,AB];cases L:rdL (s.length+1) s with
 |none=>
  simp only[AFq,BP,BT,AR];unfold WQ;rw[BJ,Lg (qY L (by omega))]
 |some l=>
  obtain⟨J,I⟩:=Xu _ _ _ L;simp only[AFq,BP,BJ,AR];unfold WQ;cases l with
  |nil=>
   simp only[AN];show br true _ _=_;rw[BJ,Lg];rintro q j B;exact AJZ j (B.trans J)
  |cons n l=>
   have E:s≠[]:=by rw[J];exact TL (I n (by simp))
   have O:((((n::l).length:Nat):Int)==0)=false:=by rw[AH,beq_eq_false_iff_ne];omega
   have G:∀q,Hq q=true->HK q=s->Ey q=n::l:=by
    rintro q j rfl;have:=QN j ((HK q).length+1) (by omega);rw[L]at this;simpa using this.symm
   simp only[O,BT];simp only[Vt,AM,AB,bc,AR,Bn,beq_iff_eq];have okq:∀m∈n::l,0<=m/\m<=2147483647:=fun m Q=>I m Q
   match l,G,okq with
   | [],G,_=>
    rw[AU (by simp),AU (by simp),AU (by simp)];refine KW E fun q j B=>?_
    obtain⟨k,a,b,c,d,e⟩:=q;have g:=G _ j B;unfold Ey at g;rcases I9 j with h|h|h|h<;>dsimp only at h g
    .rw[AX h.1]at g;simp at g
    .rw[AU (by omega),AU (by omega),AU (by omega)]at g;simp at g
    .rw[AU (by omega),AX h.1]at g;simp at g
    .rw[AU (by omega),AU (by omega),AX h.1]at g;simp at g;simp;omega
   | [x],G,okq=>
    rw[AX (by simp)];simp only[show at? [n,x] 1=some x from rfl,AB];refine KW E fun q j B=>?_
    obtain⟨k,a,b,c,d,e⟩:=q;have g:=G _ j B;unfold Ey at g;rcases I9 j with h|h|h|h<;>dsimp only at h g
    .rw[AX h.1]at g;simp at g
    .rw[AU (by omega),AU (by omega),AU (by omega)]at g;simp at g;simp;omega
    .rw[AU (by omega),AX h.1]at g;simp at g
    .rw[AU (by omega),AU (by omega),AX h.1]at g;simp at g
   | [x,y],G,okq=>
    rw[AU (by simp),AX (by simp)];simp only[show at? [n,x,y] 1=some x from rfl,show at? [n,x,y] 2=some y from rfl,AB];refine KW E fun q j B=>?_
    obtain⟨k,a,b,c,d,e⟩:=q;have g:=G _ j B;unfold Ey at g;rcases I9 j with h|h|h|h<;>dsimp only at h g
    .rw[AX h.1]at g;simp at g
    .rw[AU (by omega),AU (by omega),AU (by omega)]at g;simp at g
    .rw[AU (by omega),AX h.1]at g;simp at g;simp;omega
    .rw[AU (by omega),AU (by omega),AX h.1]at g;simp at g
   | [x,y,z,u,v],G,okq=>
    have X:=okq z (by simp);rw[AU (by simp),AU (by simp),AX (by simp)];simp only[show at? [n,x,y,z,u,v] 1=some x from rfl,show at? [n,x,y,z,u,v] 2=some y from rfl,show at? [n,x,y,z,u,v] 3=some z from rfl,show at? [n,x,y,z,u,v] 4=some u from rfl,show at? [n,x,y,z,u,v] 5=some v from rfl,AB];rw[A6 (by omega) (by omega)];refine KW E fun q j B=>?_
    obtain⟨k,a,b,c,d,e⟩:=q;have g:=G _ j B;unfold Ey at g;rcases I9 j with h|h|h|h<;>dsimp only at h g
    .rw[AX h.1]at g;simp at g;simp;omega
    .rw[AU (by omega),AU (by omega),AU (by omega)]at g;simp at g
    .rw[AU (by omega),AX h.1]at g;simp at g
    .rw[AU (by omega),AU (by omega),AX h.1]at g;simp at g
   | [x,y,z],G,okq=>
    rw[AU (by simp),AU (by simp),AU (by simp)];refine KW E fun q j B=>?_
    have g:=congrArg List.length (G _ j B)
    have:(Ey q).length≠4:=by unfold Ey;repeat' split
                             all_goals simp
    simp at g;omega
   | [x,y,z,u],G,okq=>
    rw[AU (by simp),AU (by simp),AU (by simp)];refine KW E fun q j B=>?_
    have g:=congrArg List.length (G _ j B)
    have:(Ey q).length≠5:=by unfold Ey;repeat' split
                             all_goals simp
    simp at g;omega
   |x::y::z::u::v::w::r,G,okq=>
    rw[AU (by simp;omega),AU (by simp;omega),AU (by simp;omega)];refine KW E fun q j B=>?_
    have g:=congrArg List.length (G _ j B);have:=(bH q).2;simp at g;omega
theorem Xa{s:List UInt8}{q:B1}(a:s≠[])(h:∀q',Hq q'=true->HK q'=s->q'=q):(if HK q=[]\/HK q≠s then some (⟨0,0,0,0,0,0⟩,false) else some (q,true))=some (OB s):=by
 grind[KW,HK]
theorem vM{s:List UInt8}(hs:s.length<=1048576):zS s=some (OB s):=by
 unfold zS;rw[XY hs,AB];cases Z:rdL (s.length+1) s with
 |none=>
  simp only[AFq,BP,BT,AR];unfold WS;rw[BJ,Lg (qY Z (by omega))]
 |some l=>
  obtain⟨I,H⟩:=Xu _ _ _ Z;simp only[AFq,BP,BJ,AR];unfold WS;cases l with
  |nil=>
   simp only[AN];show br true _ _=_;rw[BJ,Lg];rintro q j G;exact AJZ j (G.trans I)
  |cons n l=>
   have B:s≠[]:=by rw[I];exact TL (H n (by simp))
   have hb:((((n::l).length:Nat):Int)==0)=false:=by rw[AH,beq_eq_false_iff_ne];omega
   have hq:∀q,Hq q=true->HK q=s->Ey q=n::l:=by
    rintro q j rfl;have:=QN j ((HK q).length+1) (by omega);rw[Z]at this;simpa using this.symm
   have Y:(n::l).length<=s.length:=by
    rw[I];have:∀l:List Int,(∀m∈l,okN m)->l.length<=(pL l).length:=by
     intro l
     induction l with
     |nil=>simp|cons m l ih=>
      intro h;have j:=wu (h m (by simp));have G:=ih fun x J=>h x (by simp[J])
      simp only[pL,Ca,AK,AH]at G ⊢;omega
    exact this _ H
   rw[AH]at Y;have e1:Int.toNat 1=1:=rfl;have e5:Int.toNat 5=5:=rfl;have ed:List.take ((n::l).length-1) (List.drop 1 (n::l))=l:=by simp
   simp only[hb,BT];simp only[Vt,AM,AB,bY,AR,Bn,beq_iff_eq,e1,e5,ed];rw[B6 (by simp;omega),B6 (by simp;omega),B6 (by unfold lim;omega)];have okq:∀m∈n::l,0<=m/\m<=2147483647:=fun m hm=>H m hm
   have J:∀(i:Nat),i<5->∃x,(l++List.replicate 5 (0:Int))[i]?=some x/\(0<=x/\x<=2147483647)/\(∀y,l[i]?=some y->x=y):=by
    intro i hi;have O:i<(l++List.replicate 5 (0:Int)).length:=by rw[AK,List.length_replicate];omega
    refine⟨_,AW O,?_,?_⟩
    .have:(l++List.replicate 5 (0:Int))[i]∈l++List.replicate 5 (0:Int):=List.getElem_mem O;rw[List.mem_append,List.mem_replicate]at this;rcases this with h|h
     .exact okq _ (List.mem_cons_of_mem _ h)
     .omega
    .intro y hy;have X:=(List.getElem?_eq_some_iff.1 hy);obtain⟨j,G⟩:=X;rw[List.getElem_append_left j,G]
   obtain⟨S,hx0,b0,i0⟩:=J 0 (by omega);obtain⟨x1,hx1,b1,i1⟩:=J 1 (by omega);obtain⟨x2,hx2,b2,i2⟩:=J 2 (by omega);obtain⟨x3,hx3,b3,i3⟩:=J 3 (by omega);obtain⟨x4,hx4,b4,i4⟩:=J 4 (by omega);have a0:(l++List.replicate 5 (0:Int))[0]?=some S:=hx0;have a1:at? (l++List.replicate 5 (0:Int)) 1=some x1:=by rw[show (1:Int)=((1:Nat):Int) from rfl,Jz];exact hx1
   have a2:at? (l++List.replicate 5 (0:Int)) 2=some x2:=by rw[show (2:Int)=((2:Nat):Int) from rfl,Jz];exact hx2
   have a3:at? (l++List.replicate 5 (0:Int)) 3=some x3:=by rw[show (3:Int)=((3:Nat):Int) from rfl,Jz];exact hx3
   have a4:at? (l++List.replicate 5 (0:Int)) 4=some x4:=by rw[show (4:Int)=((4:Nat):Int) from rfl,Jz];exact hx4
   simp only[a0,a1,a2,a3,a4,AB];rw[A6 (n:=x2-1) (by omega) (by omega)];have shape:∀q,Hq q=true->HK q=s->q=(if n=1 then ⟨n,S,x1,x2-1,x3,x4⟩ else if n=3 then ⟨n,0,S,0,x1,0⟩ else if n=6 then ⟨n,0,0,0,0,0⟩ else ⟨n,S,0,0,0,0⟩):=by
    intro q j G;obtain⟨k,a,b,c,d,e⟩:=q;have g:=hq _ j G;unfold Ey at g;rcases I9 j with h|h|h|h<;>dsimp only at h g
    .rw[AX h.1]at g;obtain⟨rfl,rfl⟩:=List.cons.inj g;rw[AX h.1];have j0:=i0 _ rfl;have j1:=i1 _ rfl;have j2:=i2 _ rfl;have j3:=i3 _ rfl;have j4:=i4 _ rfl;simp;omega
    .rw[AU (by omega),AU (by omega),AU (by omega)]at g;obtain⟨rfl,rfl⟩:=List.cons.inj g;rw[AU (by omega),AU (by omega),AU (by omega)];have j0:=i0 _ rfl;simp;omega
    .rw[AU (by omega),AX h.1]at g;obtain⟨rfl,rfl⟩:=List.cons.inj g;rw[AU (by omega),AX h.1];have j0:=i0 _ rfl;have j1:=i1 _ rfl;simp;omega
    .rw[AU (by omega),AU (by omega),AX h.1]at g;obtain⟨rfl,rfl⟩:=List.cons.inj g;rw[AU (by omega),AU (by omega),AX h.1];simp;omega
   by_cases E:n=1
   .rw[AX E];simp only[AX E]at shape;exact Xa B shape
   by_cases L:n=3
   .rw[AU E,AX L];simp only[AU E,AX L]at shape;exact Xa B shape
   by_cases Q:n=6
   .rw[AU E,AU L,AX Q];simp only[AU E,AU L,AX Q]at shape;exact Xa B shape
   .rw[AU E,AU L,AU Q];simp only[AU E,AU L,AU Q]at shape;exact Xa B shape
@[simp] theorem AWx(q:B1):V3 q q=some true:=by
 unfold V3;simp[Bn]
def Yg(v:Nat):Nat:=if v % 2=1 then (v / 2) ^^^ 3988292384 else v / 2
def V1:Nat->Nat->Nat|0,v=>v|k+1,v=>V1 k (Yg v)
def Th:Nat->List UInt8->Nat|v,[]=>v|v,x::l=>Th (V1 8 (v ^^^ x.toNat)) l
def KO(s:List UInt8):Nat:=Th 4294967295 s ^^^ 4294967295
theorem nx{v:Nat}(h:v<2 ^ 32):Yg v<2 ^ 32:=by
 unfold Yg;split
 .exact Dm (by omega) (by omega)
 .omega
theorem U3:∀k {v:Nat},v<2 ^ 32->V1 k v<2 ^ 32|0,_,h=>h|k+1,_,h=>U3 k (nx h)
theorem U4:∀(l:List UInt8) {v:Nat},v<2 ^ 32->Th v l<2 ^ 32| [],_,h=>h|x::l,v,h=>U4 l (U3 8 (Dm h (by have:=x.toNat_lt;omega)))
theorem QY{a b:Nat}(c:a<2 ^ 63)(e:b<2 ^ 63):UO (a:Int) (b:Int)=((a ^^^ b:Nat):Int):=by
 unfold UO;rw[BitVec.toNat_xor,QE c,QE e];have:a ^^^ b<2 ^ 63:=Dm c e;rw[UJ (by omega) (by omega)]
theorem AMv{a b:Nat}(c:a<2 ^ 63)(e:b<2 ^ 63):dH (a:Int) (b:Int)=((a &&& b:Nat):Int):=by
 grind[QE,Nat.and_le_left,UJ]
theorem AYi(a:Nat):Du (a:Int) 1=((a / 2:Nat):Int):=by
 grind[IntKind.bits]
theorem dX{γ:Type}{F:(Int×Int->AA γ)->Int×Int->AA γ}{G:Int->AA γ}
 (hF:∀L (v k:Nat),v<2 ^ 32->k<=8->F L ((v:Int),(k:Int))=if k<8 then L (((Yg v:Nat):Int),((k+1:Nat):Int)) else G (v:Int)) :
 ∀(m k v n:Nat),k+m=8->m<n->v<2 ^ 32->BB F n ((v:Int),(k:Int))=G ((V1 m v:Nat):Int)
 |0,k,v,0,_,h,_=>by omega|0,k,v,n+1,c,_,a=>by rw[Dy,hF _ _ _ a (by omega),AU (by omega)];rfl|m+1,k,v,0,_,h,_=>by omega|m+1,k,v,n+1,c,h,a=>by
  rw[Dy,hF _ _ _ a (by omega),AX (by omega),dX hF m (k+1) _ n (by omega) (by omega) (nx a)];rfl
theorem dW{s:List UInt8}{γ:Type}{F:(Int×Int->AA γ)->Int×Int->AA γ}{G:Int->AA γ}(e:s.length<2 ^ 62)
 (hF:∀L (v i:Nat),v<2 ^ 32->i<=s.length->F L ((v:Int),(i:Int))=match s[i]? with|none=>G (v:Int)|some x=>L (((V1 8 (v ^^^ x.toNat):Nat):Int),((i+1:Nat):Int))) :
 ∀(m i v n:Nat),i+m=s.length->m<n->v<2 ^ 32->BB F n ((v:Int),(i:Int))=G ((Th v (s.drop i):Nat):Int)
 |0,i,v,0,_,h,_=>by omega|0,i,v,n+1,hi,_,c=>by
  rw[Dy,hF _ _ _ c (by omega),DU (by omega),A5 (by omega)];rfl
 |m+1,i,v,0,_,h,_=>by omega|m+1,i,v,n+1,hi,h,c=>by
  have a:i<s.length:=by omega
  rw[Dy,hF _ _ _ c (by omega),AW a];dsimp only;rw[dW e hF m (i+1) _ n (by omega) (by omega) (U3 8 (Dm c (by have:=s[i].toNat_lt;omega))),G1 a];rfl
theorem AC1{s:List UInt8}(B:s.length<2 ^ 62):zI s=some ((KO s:Nat):Int):=by
 unfold zI;have:=dW (F:=fA s) (G:=fun v=>some (UO v 4294967295)) B ?_ s.length 0 4294967295 big (by omega) (Ie _ (by omega)) (by omega)
 .refine Eq.trans this ?_;have e:=QY (a:=Th 4294967295 s) (b:=4294967295) (by have:=U4 s (v:=4294967295) (by omega);omega) (by omega);show some (UO _ ((4294967295:Nat):Int))=_;rw[Cu,e];rfl
 .intro L v i j hi;unfold fA zK;simp only[BL,AR,Jz];by_cases h:i<s.length
  .rw[AX (by omega),AW h,AB];dsimp only;have H:=s[i].toNat_lt;rw[A6 (by omega) (by omega),QY (by omega) (by omega)];have:=dX (F:=fB L (i:Int)) (G:=fun v=>L (v,((i+1:Nat):Int))) ?_ 8 0 (v ^^^ s[i].toNat) big (by omega) (Ie _ (by omega)) (Dm j (by omega))
   .exact this
   .intro L5 v k j E;unfold fB eu zJ;simp only[BL,AR];by_cases g:k<8
    .rw[AX (by omega),AX g];have q:Int.tmod (v:Int) 2=((v % 2:Nat):Int):=by rw[Dx (by omega)];omega
     have y:Int.tdiv (v:Int) 2=((v / 2:Nat):Int):=by rw[Gp (by omega)];omega
     rw[q,y,A6 (by omega) (by omega),A6 (n:=(k:Int)+1) (by omega) (by omega),Bn,show (3988292384:Int)=((3988292384:Nat):Int) from rfl,QY (by omega) (by omega)];unfold Yg;by_cases c:v % 2=1
     .rw[AX (by rw[c];rfl),AX c];rfl
     .rw[AU (by rw[beq_iff_eq];omega),AU c];rfl
    .rw[AU (by omega),AU g,A6 (by omega) (by omega)];rfl
  .rw[AU (by omega),DU (by omega)]
theorem ABy{s:List UInt8}(y:s.length<2 ^ 62):yv s=some ((KO s:Nat):Int):=by
 unfold yv;have:=dW (F:=eA s) (G:=fun v=>some (UO v 4294967295)) y ?_ s.length 0 4294967295 big (by omega) (Ie _ (by omega)) (by omega)
 .refine Eq.trans this ?_;have e:=QY (a:=Th 4294967295 s) (b:=4294967295) (by have:=U4 s (v:=4294967295) (by omega);omega) (by omega);show some (UO _ ((4294967295:Nat):Int))=_;rw[Cu,e];rfl
 .intro L v i j hi;unfold eA yx;simp only[BL,AR,Jz];by_cases h:i<s.length
  .rw[AX (by omega),AW h,AB];dsimp only;have E:=s[i].toNat_lt;rw[A6 (by omega) (by omega),QY (by omega) (by omega)];have:=dX (F:=eB L (i:Int)) (G:=fun v=>L (v,((i+1:Nat):Int))) ?_ 8 0 (v ^^^ s[i].toNat) big (by omega) (Ie _ (by omega)) (Dm j (by omega))
   .exact this
   .intro L5 v k j B;unfold eB dy yw;simp only[BL,AR];by_cases g:k<8
    .rw[AX (by omega),AX g];have q:dH (v:Int) 1=((v % 2:Nat):Int):=by
      rw[show (1:Int)=((1:Nat):Int) from rfl,AMv (by omega) (by omega),Nat.and_one_is_mod]
     rw[q,AYi,A6 (n:=(k:Int)+1) (by omega) (by omega),Bn,show (3988292384:Int)=((3988292384:Nat):Int) from rfl,QY (by omega) (by omega)];unfold Yg;by_cases c:v % 2=1
     .rw[AX (by rw[c];rfl),AX c];rfl
     .rw[AU (by rw[beq_iff_eq];omega),AU c];rfl
    .rw[AU (by omega),AU g,A6 (by omega) (by omega)];rfl
  .rw[AU (by omega),DU (by omega)]
def four(c:Int):List UInt8:=[toB (Du c 24),toB (Du c 16),toB (Du c 8),toB c]
theorem G4(c:Int):(four c).length=4:=rfl
def Qr(q:Int)(b:List UInt8):Prop:=(1<=q/\q<=1000000)/\(1<=b.length/\b.length<=60)
instance (q:Int) (b:List UInt8):Decidable (Qr q b):=by unfold Qr;infer_instance
def frT(q:Int)(b:List UInt8):List UInt8:=four ((KO (pN q++b):Nat):Int)++(pN q++b)
def frB(q:Int)(b:List UInt8):List UInt8:=if Qr q b then pN ((frT q b).length:Int)++frT q b else []
theorem Ob{q:Int}{b:List UInt8}(h:Qr q b):6<=(frT q b).length/\(frT q b).length<=69:=by
 have a:=PL q;have c:0<(pN q).length:=by unfold pN;rw[AX (by have:=h.1;omega)];exact IG _
 have:=h.2;simp only[frT,AK,G4];omega
theorem XN{q:Int}{b:List UInt8}(h:Qr q b):7<=(frB q b).length/\(frB q b).length<=74:=by
 have:=Ob h;have a:=PL ((frT q b).length:Int);have c:0<(pN ((frT q b).length:Int)).length:=by unfold pN;rw[AX (by omega)];exact IG _
 unfold frB;rw[AX h,AK];omega
theorem AN7{q:Int}{b:List UInt8}(h:frB q b≠[]):Qr q b:=by
 grind[frB]
theorem RP(q:Int)(b:List UInt8):zl q b=some (frB q b):=by
 unfold zl fU;simp only[cV,AB,AR,BP,BJ];by_cases c:1<=q/\q<=1000000
 .rw[decide_eq_true c,BJ];by_cases g:(1:Int)<=b.length/\(b.length:Int)<=60
  .have a:Qr q b:=⟨c,by omega⟩;have j:=PL q;rw[decide_eq_true g,BJ,TW,AB,B6 (by unfold OI;omega),AC1 (by rw[AK];omega),AB];unfold zL;rw[AB,B6 (by simp only[AK,AH,AN];unfold OI;omega),TW,AB];have e:[toB (Du ((KO (pN q++b):Nat):Int) 24),toB (Du ((KO (pN q++b):Nat):Int) 16),toB (Du ((KO (pN q++b):Nat):Int) 8),toB ((KO (pN q++b):Nat):Int)]++(pN q++b)=frT q b:=rfl;rw[e];have:=PL ((frT q b).length:Int);have:=Ob a;rw[B6 (by unfold OI;omega)];unfold frB;rw[AX a]
  .rw[decide_eq_false g,BT];unfold frB;rw[AU (fun h=>g ⟨by have:=h.2;omega,by have:=h.2;omega⟩)]
 .rw[decide_eq_false c,BT];unfold frB;rw[AU (fun h=>c h.1)]
theorem XT(q:Int)(b:List UInt8):AHA q b=some (frB q b):=by
 unfold AHA fh;simp only[QX,AB,AR,BP,BJ];by_cases c:1<=q/\q<=1000000
 .rw[decide_eq_true c,BJ];by_cases g:(1:Int)<=b.length/\(b.length:Int)<=60
  .have a:Qr q b:=⟨c,by omega⟩;have j:=PL q;rw[decide_eq_true g,BJ,KQ,AB,B6 (by unfold lim;omega),ABy (by rw[AK];omega),AB];rw[B6 (by simp only[AK,AH,AN];unfold lim;omega),KQ,AB];have e:[toB (Du ((KO (pN q++b):Nat):Int) 24),toB (Du ((KO (pN q++b):Nat):Int) 16),toB (Du ((KO (pN q++b):Nat):Int) 8),toB ((KO (pN q++b):Nat):Int)]++(pN q++b)=frT q b:=rfl;rw[e];have:=PL ((frT q b).length:Int);have:=Ob a;rw[B6 (by unfold OI;omega)];unfold frB;rw[AX a]
  .rw[decide_eq_false g,BT];unfold frB;rw[AU (fun h=>g ⟨by have:=h.2;omega,by have:=h.2;omega⟩)]
 .rw[decide_eq_false c,BT];unfold frB;rw[AU (fun h=>c h.1)]
end Lv.P
namespace Lv.P
open Lv Go
theorem Fy{α:Type}{l:List α}{i:Int}(a:0<=i)(c:i<l.length):∃x,at? l i=some x:=by
 obtain⟨n,rfl⟩:=Ac a;exact⟨_,BH (by omega)⟩
theorem XO{x:Int}(a:0<=x)(c:x<1152921504606846976):w64 (Du (IntKind.u64.wrap (w64 x)) 1)=x / 2:=by
 obtain⟨n,rfl⟩:=Ac a
 grind[A6,IntKind.wrap,IntKind.signed,IntKind.bits,AYi]
def Ln{α:Type}(n:Nat)(x:AA (List α)):Prop:=∃r,x=some r/\r.length=n
theorem J0(k:Nat)(h:k<2 ^ 64):k<big:=Ie k h
theorem AWM{α:Type}{cmp:α->α->AA Int}(g:∀x y,∃c,cmp x y=some c){l:List α}{a b:Int}(h0:0<=a)(ha:a<=l.length)(hb:b<=l.length)(hl:l.length<1099511627776):Ln l.length (DK cmp l a b):=by
 unfold DK;rw[A6 (by omega) (by omega)];refine KB (fun x=>x.1.length=l.length/\a+1<=x.2/\x.2<=2*1099511627776) (fun x=>(b-x.2).toNat) (fun r:List α=>r.length=l.length) ?_ big (l,a+1) ⟨rfl,by dsimp only;omega,by dsimp only;omega⟩ (J0 _ (by dsimp only;omega));rintro L ⟨v,i⟩ ⟨E,hi,q⟩ H;dsimp only at E hi q H;unfold Df;dsimp only;rw[BL];split
 .rename_i Q;refine KB (fun x=>x.1.length=l.length/\a<=x.2/\x.2<=i) (fun x=>(x.2-a).toNat) (fun r:List α=>r.length=l.length) ?_ big (v,i) ⟨E,by dsimp only;omega,by dsimp only;omega⟩ (J0 _ (by dsimp only;omega));rintro L' ⟨u,j⟩ ⟨e,S,B⟩ h;dsimp only at e S B h;have out:∀(u:List α),u.length=l.length->∃r,EG cmp L i u=some r/\r.length=l.length:=by
   intro u e;unfold EG;rw[A6 (by omega) (by omega)];exact H (u,i+1) ⟨e,by dsimp only;omega,by dsimp only;omega⟩ (by dsimp only;omega)
  unfold Dg;dsimp only;rw[BL];split
  .rename_i X;have G:w64 (j-1)=j-1:=A6 (by omega) (by omega);obtain⟨Z,q1⟩:=Fy (l:=u) (i:=j) (by omega) (by omega);obtain⟨J,I⟩:=Fy (l:=u) (i:=j-1) (by omega) (by omega);obtain⟨c,O⟩:=g Z J;obtain⟨x3,Y⟩:=Fy (l:=List.set u j.toNat J) (i:=j-1) (by omega) (by rw[A8];omega);simp only[G,q1,I,AB,O,AR];unfold De;rw[BL];split
   .simp only[G,q1,I,Y,AB];exact h (_,j-1) ⟨by simp only[A8];exact e,by dsimp only;omega,by dsimp only;omega⟩ (by dsimp only;omega)
   .rw[AR];exact out u e
  .rw[AR];unfold De;rw[BT,AR];exact out u e
 .exact⟨v,rfl,E⟩
theorem AGB{α:Type}{cmp:α->α->AA Int}{l:List α}{a b n:Int}(G:0<=a)(H:0<=b)(I:a+n<=l.length)(J:b+n<=l.length)(O:l.length<1099511627776):Ln l.length (EP cmp l a b n):=by
 unfold EP;refine KB (fun x=>x.1.length=l.length/\0<=x.2) (fun x=>(n-x.2).toNat) (fun r:List α=>r.length=l.length) ?_ big (l,0) ⟨rfl,by dsimp only;omega⟩ (J0 _ (by dsimp only;omega));rintro L ⟨v,i⟩ ⟨c,hi⟩ e;dsimp only at c hi e;unfold Kl;dsimp only;rw[BL];split
 .rename_i q;have g:w64 (a+i)=a+i:=A6 (by omega) (by omega);have h:w64 (b+i)=b+i:=A6 (by omega) (by omega);have j:w64 (i+1)=i+1:=A6 (by omega) (by omega);obtain⟨Q,q1⟩:=Fy (l:=v) (i:=a+i) (by omega) (by omega);obtain⟨E,y⟩:=Fy (l:=v) (i:=b+i) (by omega) (by omega);obtain⟨S,B⟩:=Fy (l:=List.set v (a+i).toNat E) (i:=b+i) (by omega) (by rw[A8];omega);simp only[g,h,j,q1,y,B,AB];exact e (_,i+1) ⟨by simp only[A8];exact c,by dsimp only;omega⟩ (by dsimp only;omega)
 .exact⟨v,rfl,c⟩
theorem AYg{α:Type}{cmp:α->α->AA Int}{l:List α}{a m b:Int}(I:0<=a)(J:a<m)(O:m<b)(Q:b<=l.length)(S:l.length<1099511627776):Ln l.length (Hm cmp l a m b):=by
 unfold Hm;rw[A6 (n:=m-a) (by omega) (by omega),A6 (n:=b-m) (by omega) (by omega)];refine KB (fun x=>x.1.length=l.length/\0<x.2.1/\x.2.1<=m-a/\0<x.2.2/\x.2.2<=b-m) (fun x=>(x.2.1+x.2.2).toNat) (fun r:List α=>r.length=l.length) ?_ big (l,m-a,b-m) ⟨rfl,by dsimp only;omega,by dsimp only;omega,by dsimp only;omega,by dsimp only;omega⟩ (J0 _ (by dsimp only;omega));rintro L ⟨v,i,j⟩ ⟨h,hi,y,H,B⟩ E;dsimp only at h hi y H B E;unfold Mz;dsimp only;have q:w64 (m-i)=m-i:=A6 (by omega) (by omega);have G:w64 (w64 (m+j)-i)=m+j-i:=by rw[A6 (n:=m+j) (by omega) (by omega)];exact A6 (by omega) (by omega)
 by_cases e:i=j
 .subst e;rw[show (i != i)=false from by simp,BT,AR];unfold My;obtain⟨r,g,c⟩:=AGB (cmp:=cmp) (l:=v) (a:=m-i) (b:=m) (n:=i) (by omega) (by omega) (by omega) (by omega) (by omega);dsimp only;rw[q,g,AB];exact⟨r,rfl,c.trans h⟩
 .rw[show (i != j)=true from by simp[e],BJ,BL];split
  .obtain⟨r,g,c⟩:=AGB (cmp:=cmp) (l:=v) (a:=m-i) (b:=m) (n:=j) (by omega) (by omega) (by omega) (by omega) (by omega);rw[q,g,AB,A6 (n:=i-j) (by omega) (by omega)];exact E (r,i-j,j) ⟨c.trans h,by dsimp only;omega,by dsimp only;omega,by dsimp only;omega,by dsimp only;omega⟩ (by dsimp only;omega)
  .obtain⟨r,g,c⟩:=AGB (cmp:=cmp) (l:=v) (a:=m-i) (b:=m+j-i) (n:=i) (by omega) (by omega) (by omega) (by omega) (by omega);rw[q,G,g,AB,A6 (n:=j-i) (by omega) (by omega)];exact E (r,i,j-i) ⟨c.trans h,by dsimp only;omega,by dsimp only;omega,by dsimp only;omega,by dsimp only;omega⟩ (by dsimp only;omega)
def xz{α:Type}(k:Nat)(r:List α->Int->Int->Int->AA (List α)):Prop:=
 ∀(l:List α) (a m b:Int),0<=a->a<m->m<b->b<=l.length->l.length<1099511627776->b-a<=2 ^ k->Ln l.length (r l a m b)
theorem AMa{α:Type}{cmp:α->α->AA Int}{k:Nat}{r:List α->Int->Int->Int->AA (List α)}(B:xz k r){l:List α}{a m b s:Int}(L:0<=a)(O:a<m)(Q:m<b)(S:b<=l.length)(Y:l.length<1099511627776)(X:b-a<=2 ^ (k+1))
 (G:a<=s) (H:s<=(a+b) / 2) (I:s<=m) (J:(a+b) / 2+m-b<=s):Ln l.length (H5 cmp r l a m b s):=by
 have q:w64 (Du (IntKind.u64.wrap (w64 (a+b))) 1)=(a+b) / 2:=XO (by omega) (by omega);have y:w64 (w64 ((a+b) / 2+m)-s)=(a+b) / 2+m-s:=by rw[A6 (n:=(a+b) / 2+m) (by omega) (by omega)];exact A6 (by omega) (by omega)
 have E:(2:Int) ^ (k+1)=2*2 ^ k:=by rw[Int.pow_succ];omega
 have c:∀v:List α,v.length=l.length->Ln l.length (GI cmp r a m b s v):=by
  intro v h;unfold GI H8;rw[q,y,BL];split
  .rw[AR,BL];split
   .obtain⟨x,j,e⟩:Ln v.length (r v ((a+b) / 2) ((a+b) / 2+m-s) b):=B v ((a+b) / 2) ((a+b) / 2+m-s) b (by omega) (by omega) (by omega) (by omega) (by omega) (by omega);rw[j,AB];exact⟨x,rfl,e.trans h⟩
   .exact⟨v,rfl,h⟩
  .rw[AR,BT];exact⟨v,rfl,h⟩
 have g:∀v:List α,v.length=l.length->Ln l.length (GH cmp r a m b s v):=by
  intro v h;unfold GH H7;rw[q,BL];split
  .rw[AR,BL];split
   .obtain⟨x,j,e⟩:Ln v.length (r v a s ((a+b) / 2)):=B v a s ((a+b) / 2) (by omega) (by omega) (by omega) (by omega) (by omega) (by omega);rw[j,AB,AR];exact c x (e.trans h)
   .rw[AR];exact c v h
  .rw[AR,BT,AR];exact c v h
 unfold H5 H6;rw[q,y,BL];split
 .rw[AR,BL];split
  .obtain⟨x,j,e⟩:=AYg (cmp:=cmp) (l:=l) (a:=s) (m:=m) (b:=(a+b) / 2+m-s) (by omega) (by omega) (by omega) (by omega) (by omega);rw[j,AB,AR];exact g x e
  .rw[AR];exact g l rfl
 grind[AR,BT]
theorem AJh{α:Type}{cmp:α->α->AA Int}(g:∀x y,∃c,cmp x y=some c){k:Nat}{r:List α->Int->Int->Int->AA (List α)}(hr:xz k r):xz (k+1) (Fm cmp r):=by
 intro l a m b h0 h1 h2 h3 hl hk;show Ln l.length (Fm cmp r l a m b);have e0:w64 (Du (IntKind.u64.wrap (w64 (a+b))) 1)=(a+b) / 2:=XO (by omega) (by omega);unfold Fm;rw[A6 (n:=m-a) (by omega) (by omega)];by_cases c1:m-a=1
 .rw[show (m-a==1)=true from by simp[c1],BJ];refine KB (fun x=>m<=x.1/\x.1<=x.2/\x.2<=b) (fun x=>(x.2-x.1).toNat) (fun r:List α=>r.length=l.length) ?_ big (m,b) ⟨by dsimp only;omega,by dsimp only;omega,by dsimp only;omega⟩ (J0 _ (by dsimp only;omega));rintro L ⟨i,j⟩ ⟨hi,H,X⟩ h;dsimp only at hi H X h;unfold LC;dsimp only;rw[BL];split
  .have eh:w64 (Du (IntKind.u64.wrap (w64 (i+j))) 1)=(i+j) / 2:=XO (by omega) (by omega);have e:w64 ((i+j) / 2+1)=(i+j) / 2+1:=A6 (by omega) (by omega);obtain⟨G,q1⟩:=Fy (l:=l) (i:=(i+j) / 2) (by omega) (by omega);obtain⟨J,E⟩:=Fy (l:=l) (i:=a) (by omega) (by omega);obtain⟨c,O⟩:=g G J;simp only[eh,e,q1,E,AB,O];rw[BL];split
   .exact h ((i+j) / 2+1,j) ⟨by dsimp only;omega,by dsimp only;omega,by dsimp only;omega⟩ (by dsimp only;omega)
   .exact h (i,(i+j) / 2) ⟨by dsimp only;omega,by dsimp only;omega,by dsimp only;omega⟩ (by dsimp only;omega)
  .rw[AR];unfold K8;refine KB (fun x=>x.1.length=l.length/\a<=x.2) (fun x=>(i-1-x.2).toNat) (fun r:List α=>r.length=l.length) ?_ big (l,a) ⟨rfl,by dsimp only;omega⟩ (J0 _ (by dsimp only;omega));rintro L' ⟨u,q⟩ ⟨I,Y⟩ B;dsimp only at I Y B;unfold LD Gl;dsimp only;rw[A6 (n:=i-1) (by omega) (by omega),BL];split
   .have Q:w64 (q+1)=q+1:=A6 (by omega) (by omega);obtain⟨G,q1⟩:=Fy (l:=u) (i:=q+1) (by omega) (by omega);obtain⟨J,E⟩:=Fy (l:=u) (i:=q) (by omega) (by omega);obtain⟨x3,q3⟩:=Fy (l:=List.set u q.toNat G) (i:=q+1) (by omega) (by rw[A8];omega);simp only[Q,q1,E,q3,AB];exact B (_,q+1) ⟨by simp only[A8];exact I,by dsimp only;omega⟩ (by dsimp only;omega)
   .rw[AR];exact⟨u,rfl,I⟩
 .rw[show (m-a==1)=false from by simp[c1],BT,AR];unfold K9;rw[A6 (n:=b-m) (by omega) (by omega)];by_cases c2:b-m=1
  .rw[show (b-m==1)=true from by simp[c2],BJ];refine KB (fun x=>a<=x.1/\x.1<=x.2/\x.2<=m) (fun x=>(x.2-x.1).toNat) (fun r:List α=>r.length=l.length) ?_ big (a,m) ⟨by dsimp only;omega,by dsimp only;omega,by dsimp only;omega⟩ (J0 _ (by dsimp only;omega));rintro L ⟨i,j⟩ ⟨hi,H,X⟩ h;dsimp only at hi H X h;unfold LF;dsimp only;rw[BL];split
   .have eh:w64 (Du (IntKind.u64.wrap (w64 (i+j))) 1)=(i+j) / 2:=XO (by omega) (by omega);have e:w64 ((i+j) / 2+1)=(i+j) / 2+1:=A6 (by omega) (by omega);obtain⟨G,q1⟩:=Fy (l:=l) (i:=(i+j) / 2) (by omega) (by omega);obtain⟨J,E⟩:=Fy (l:=l) (i:=m) (by omega) (by omega);obtain⟨c,O⟩:=g J G;simp only[eh,e,q1,E,AB,O];cases S:decide (c<0)
    .rw[show (!false)=true from rfl,BJ];exact h ((i+j) / 2+1,j) ⟨by dsimp only;omega,by dsimp only;omega,by dsimp only;omega⟩ (by dsimp only;omega)
    .rw[show (!true)=false from rfl,BT];exact h (i,(i+j) / 2) ⟨by dsimp only;omega,by dsimp only;omega,by dsimp only;omega⟩ (by dsimp only;omega)
   .rw[AR];unfold LA;refine KB (fun x=>x.1.length=l.length/\x.2<=m/\i<=x.2) (fun x=>(x.2-i).toNat) (fun r:List α=>r.length=l.length) ?_ big (l,m) ⟨rfl,by dsimp only;omega,by dsimp only;omega⟩ (J0 _ (by dsimp only;omega));rintro L' ⟨u,q⟩ ⟨I,Y,Z⟩ B;dsimp only at I Y Z B;unfold LG Gl;dsimp only;rw[BL];split
    .have Q:w64 (q-1)=q-1:=A6 (by omega) (by omega);obtain⟨G,q1⟩:=Fy (l:=u) (i:=q-1) (by omega) (by omega);obtain⟨J,E⟩:=Fy (l:=u) (i:=q) (by omega) (by omega);obtain⟨x3,q3⟩:=Fy (l:=List.set u q.toNat G) (i:=q-1) (by omega) (by rw[A8];omega);simp only[Q,q1,E,q3,AB];exact B (_,q-1) ⟨by simp only[A8];exact I,by dsimp only;omega,by dsimp only;omega⟩ (by dsimp only;omega)
    .rw[AR];exact⟨u,rfl,I⟩
  .rw[show (b-m==1)=false from by simp[c2],BT,AR];have key:∀s t:Int,a<=s->s<=t->t<=(a+b) / 2->t<=m->(a+b) / 2+m-b<=s->Ln l.length (GG cmp r l a m b (s,t)):=by
    intro s t p1 p2 p3 p4 p5;unfold GG;refine KB (fun x=>a<=x.1/\x.1<=x.2/\x.2<=(a+b) / 2/\x.2<=m/\(a+b) / 2+m-b<=x.1) (fun x=>(x.2-x.1).toNat) (fun r:List α=>r.length=l.length) ?_ big (s,t) ⟨p1,p2,p3,p4,p5⟩ (J0 _ (by dsimp only;omega));rintro L ⟨i,j⟩ ⟨g1,g2,g3,g4,g5⟩ h;dsimp only at g1 g2 g3 g4 g5 h;unfold Km;dsimp only;rw[BL];split
    .have eh:w64 (Du (IntKind.u64.wrap (w64 (i+j))) 1)=(i+j) / 2:=XO (by omega) (by omega);have e:w64 ((i+j) / 2+1)=(i+j) / 2+1:=A6 (by omega) (by omega);have ep:w64 (w64 (w64 ((a+b) / 2+m)-1)-(i+j) / 2)=(a+b) / 2+m-1-(i+j) / 2:=by
      rw[A6 (n:=(a+b) / 2+m) (by omega) (by omega),A6 (n:=(a+b) / 2+m-1) (by omega) (by omega)];exact A6 (by omega) (by omega)
     obtain⟨G,q1⟩:=Fy (l:=l) (i:=(i+j) / 2) (by omega) (by omega);obtain⟨J,E⟩:=Fy (l:=l) (i:=(a+b) / 2+m-1-(i+j) / 2) (by omega) (by omega);obtain⟨c,O⟩:=g J G;simp only[e0,eh,e,ep,q1,E,AB,O];cases S:decide (c<0)
     .rw[show (!false)=true from rfl,BJ];exact h ((i+j) / 2+1,j) ⟨by dsimp only;omega,by dsimp only;omega,by dsimp only;omega,by dsimp only;omega,by dsimp only;omega⟩ (by dsimp only;omega)
     .rw[show (!true)=false from rfl,BT];exact h (i,(i+j) / 2) ⟨by dsimp only;omega,by dsimp only;omega,by dsimp only;omega,by dsimp only;omega,by dsimp only;omega⟩ (by dsimp only;omega)
    .rw[AR];exact AMa hr h0 h1 h2 h3 hl hk g1 (by omega) (by omega) g5
   unfold LB;rw[e0,BL];split
   .rw[AR,A6 (n:=(a+b) / 2+m) (by omega) (by omega),A6 (n:=(a+b) / 2+m-b) (by omega) (by omega)];exact key _ _ (by omega) (by omega) (by omega) (by omega) (by omega)
   .rw[AR];exact key _ _ (by omega) (by omega) (by omega) (by omega) (by omega)
theorem AC5{α:Type}{cmp:α->α->AA Int}(g:∀x y,∃c,cmp x y=some c){mrg:List α->Int->Int->Int->AA (List α)}(Q:∀(l:List α) (a m b:Int),0<=a->a<m->m<b->b<=l.length->l.length<=40->Ln l.length (mrg l a m b)){l:List α}(Y:l.length<=40):Ln l.length (GS cmp mrg l (l.length:Int)):=by
 unfold GS;have O:∀v:List α,v.length=l.length->Ln l.length (BB (F6 cmp mrg (l.length:Int)) big (v,20)):=by
  intro v X;refine KB (fun x=>x.1.length=l.length/\(x.2=20\/x.2=40)) (fun x=>(40-x.2).toNat) (fun r:List α=>r.length=l.length) ?_ big (v,20) ⟨X,.inl rfl⟩ (J0 _ (by dsimp only;omega));rintro L ⟨u,s⟩ ⟨j,S⟩ G;dsimp only at j S G;unfold F6;dsimp only;rw[BL];split
  .have E:s=20:=by omega
   subst E;have out:∀w:List α,w.length=l.length->Ln l.length (Hf cmp mrg L 20 w):=by
    intro w B;unfold Hf;rw[A6 (by omega) (by omega)];exact G (w,20*2) ⟨B,.inr rfl⟩ (by dsimp only;omega)
   rw[A6 (n:=2*20) (by omega) (by omega)];refine KB (fun x=>x.1.length=l.length/\x.2.2=x.2.1+40/\(x.2.1=0\/x.2.1=40)) (fun x=>(40-x.2.1).toNat) (fun r:List α=>r.length=l.length) ?_ big (u,0,2*20) ⟨j,by dsimp only;omega,.inl rfl⟩ (J0 _ (by dsimp only;omega));rintro L' ⟨w,a,b⟩ ⟨B,h,I⟩ H;dsimp only at B h I H;unfold M1;dsimp only;rw[BL];split
   .obtain⟨x,q,e⟩:=Q w a (a+20) b (by omega) (by omega) (by omega) (by omega) (by omega);rw[A6 (n:=a+20) (by omega) (by omega),q,AB,A6 (n:=2*20) (by omega) (by omega),A6 (n:=b+2*20) (by omega) (by omega)];exact H (x,b,b+2*20) ⟨e.trans B,by dsimp only;omega,by dsimp only;omega⟩ (by dsimp only;omega)
   .rw[AR];unfold M0;dsimp only;rw[A6 (n:=a+20) (by omega) (by omega),BL];split
    .obtain⟨x,q,e⟩:=Q w a (a+20) (l.length:Int) (by omega) (by omega) (by omega) (by omega) (by omega);rw[q,AB,AR];exact out x (e.trans B)
    .rw[AR];exact out w B
  .exact⟨u,rfl,j⟩
 have key:Ln l.length (BB (F5 cmp mrg (l.length:Int)) big (l,0,20)):=by
  refine KB (fun x=>x.1.length=l.length/\0<=x.2.1/\x.2.1<=(l.length:Int)/\x.2.2=x.2.1+20) (fun x=>(60-x.2.1).toNat) (fun r:List α=>r.length=l.length) ?_ big (l,0,20) ⟨rfl,by dsimp only;omega,by dsimp only;omega,by dsimp only;omega⟩ (J0 _ (by dsimp only;omega));rintro L ⟨u,a,b⟩ ⟨j,I,J,h⟩ G;dsimp only at j I J h G;unfold F5;dsimp only;rw[BL];split
  .obtain⟨x,q,e⟩:=AWM g (l:=u) (a:=a) (b:=b) (by omega) (by omega) (by omega) (by omega);rw[q,AB,A6 (n:=b+20) (by omega) (by omega)];exact G (x,b,b+20) ⟨e.trans j,by dsimp only;omega,by dsimp only;omega,rfl⟩ (by dsimp only;omega)
  .rw[AR];unfold He;dsimp only;obtain⟨x,q,e⟩:=AWM g (l:=u) (a:=a) (b:=(l.length:Int)) (by omega) (by omega) (by omega) (by omega);rw[q,AB];exact O x (e.trans j)
 exact key
theorem rQ:∀k,xz (α:=Ai) k (fun l a m b=>(bK k).d (l,a,m,b,(),()))
 |0=>by
  intro l a m b c e g j B q
  grind
 |k+1=>AJh (fun x y=>(P5 x y).imp fun _ h=>h.1) (rQ k)
theorem AB9{l:List Ai}{a m b:Int}(c:0<=a)(e:a<m)(g:m<b)(h:b<=l.length)(j:l.length<=40):Ln l.length (ANH l a m b):=
 rQ 7 l a m b c e g h (by omega) (by have:(2:Int) ^ 7=128:=rfl;omega)
theorem me{l:List Ai}(c:l.length<=40):Ln l.length (ny l):=by
 unfold ny AGv;obtain⟨x,e,a⟩:=AC5 (fun x y=>(P5 x y).imp fun _ h=>h.1) (mrg:=ANH) (fun _ _ _ _=>AB9) c;rw[e,AB];exact⟨x,rfl,a⟩
theorem AJg:∀k,xz (α:=BO) k (fun l a m b=>(bL k).d (l,a,m,b,(),()))
 |0=>by
  intro l a m b c e g j B q
  grind
 |k+1=>AJh (fun x y=>(NY x y).imp fun _ h=>h.1) (AJg k)
theorem AKe{l:List BO}{a m b:Int}(c:0<=a)(e:a<m)(g:m<b)(h:b<=l.length)(j:l.length<=40):Ln l.length (ANP l a m b):=
 AJg 7 l a m b c e g h (by omega) (by have:(2:Int) ^ 7=128:=rfl;omega)
theorem xd{l:List BO}(c:l.length<=40):Ln l.length (oE l):=by
 unfold oE AGz;obtain⟨x,e,a⟩:=AC5 (fun x y=>(NY x y).imp fun _ h=>h.1) (mrg:=ANP) (fun _ _ _ _=>AKe) c;rw[e,AB];exact⟨x,rfl,a⟩
end Lv.P
