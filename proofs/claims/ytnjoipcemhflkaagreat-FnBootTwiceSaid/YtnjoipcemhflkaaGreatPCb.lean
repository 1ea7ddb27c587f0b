/- Plain laws about what the program computes. -/
import Derived.Test.YtnjoipcemhflkaaGreatPAb
set_option linter.unusedVariables false
set_option linter.unusedSimpArgs false
set_option linter.unusedSectionVars false
open Int renaming eq_ofNat_of_zero_le->AX,tdiv_eq_ediv_of_nonneg->Gw,tmod_eq_emod_of_nonneg->D6,toNat_natCast->Ac
open List renaming append_eq_nil_iff->Hw,cons_append->Ew,drop_drop->DL,drop_eq_getElem_cons->G6,drop_eq_nil_iff->F9,drop_eq_nil_of_le->BA,drop_left->Ef,drop_zero->Cs,flatMap_cons->CZ,getElem?_cons_zero->AM,getElem?_drop->Bq,getElem?_eq_getElem->AS,getElem?_eq_none->DY,length_append->AK,length_cons->AI,length_nil->AP,length_set->BJ,nil_append->CB
open Nat renaming add_assoc->CQ,div_lt_iff_lt_mul->Co,lt_or_ge->AZ,mod_eq_of_lt->KG,mul_le_mul_right->Ai,pow_le_pow_right->GC,pow_succ->He,xor_lt_two_pow->Du,zero_add->Aq
namespace Lv.P
open Go (IntKind BinOp UnOp)
@[simp] theorem de(a b c:Int):Eh a b c=some (decide (b<=a/\a<=c)):=by
 grind[Eh,dF,BQ,AV]
@[simp] theorem QT(a b c:Int):C5 a b c=some (decide (b<=a/\a<=c)):=by
 grind[C5,WL,BQ,AV]
def FQ(n:Nat):List UInt8:=if n<128 then [UInt8.ofNat n] else UInt8.ofNat (n % 128+128)::FQ (n / 128)
decreasing_by omega
def pN(n:Int):List UInt8:=if 0<=n/\n<=2147483647 then FQ n.toNat else []
theorem Ok{n:Nat}(h:n<128):FQ n=[UInt8.ofNat n]:=by rw[FQ,AW h]
theorem UG{n:Nat}(h:128<=n):FQ n=UInt8.ofNat (n % 128+128)::FQ (n / 128):=by rw[FQ,AR (by omega)]
theorem IG(n:Nat):0<(FQ n).length:=by rw[FQ];split<;>simp
theorem bw:∀(k n:Nat),n<128 ^ (k+1)->(FQ n).length<=k+1
 |0,n,h=>by rw[Ok (by simpa using h)];simp|k+1,n,h=>by
  rcases AZ n 128 with a|a
  .rw[Ok a];simp
  .rw[UG a];have:=bw k (n / 128) (by rw[Co (by omega)];rw[He]at h;exact h);simp only[AI];omega
theorem KP{n:Nat}(h:n<=2147483647):(FQ n).length<=5:=bw 4 n (by omega)
theorem PH(n:Int):(pN n).length<=5:=by unfold pN;split
                                       .exact KP (by omega)
                                       .simp
theorem AMX{F:(Int×List UInt8->AA (List UInt8))->Int×List UInt8->AA (List UInt8)}
 (hF:∀L n acc,F L (n,acc)=if n<128 then gd (acc.length+1<=lim) (some (acc++[toB n])) else gd (acc.length+1<=lim) (L (w64 (Int.tdiv n 128),acc++[toB (w64 (Int.tmod n 128+128))])))
 {n:Nat} (q:n<=2147483647):BD F big ((n:Int),[])=some (FQ n):=by
 have:=aC (F:=F) (x:=((n:Int),[])) (fun x=>some (x.2++FQ x.1.toNat)) (fun x=>0<=x.1/\x.1<=2147483647/\x.2.length+(FQ x.1.toNat).length<=5) (fun x=>x.1.toNat) ?_ ?_ ?_
 .simpa using this
 .rintro L ⟨m,acc⟩ ⟨a,j,c⟩ hL;dsimp only at a j c hL ⊢;obtain⟨m,rfl⟩:=AX a;rw[hF];simp only[Ac]at c hL ⊢;have hlim:acc.length+1<=lim:=by have:=IG m;unfold lim;omega
  by_cases h:m<128
  .rw[AW (by omega),B8 hlim,Ok h,AMr (by omega)]
  .have e:Int.tdiv (m:Int) 128=((m / 128:Nat):Int):=by
    rw[Gw (by omega)];rfl
   have g:Int.tmod (m:Int) 128+128=((m % 128+128:Nat):Int):=by
    rw[D6 (by omega)];omega
   have y:=UG (n:=m) (by omega);rw[AR (by omega),B8 hlim,e,g,A2 (by omega) (by omega),A2 (by omega) (by omega),AMr (by omega)]
   grind
 .refine⟨by dsimp only;omega,by dsimp only;omega,?_⟩;have:=KP q;simpa using this
 .dsimp only;omega
@[simp] theorem TY(n:Int):AA2 n=some (pN n):=by
 unfold AA2 pN;simp only[de,AB,BK,BQ];split
 .rename_i h;obtain⟨m,rfl⟩:=AX h.1;refine AMX (fun L n acc=>?_) (by omega);unfold fc Wb;simp only[BQ,AV,AI,AP,Aq];by_cases h:n>127
  .grind
  .rw[AR h,AW (by omega)]
 .rfl
@[simp] theorem KM(n:Int):ABB n=some (pN n):=by
 unfold ABB pN;simp only[QT,AB,BK,BQ];split
 .rename_i h;obtain⟨m,rfl⟩:=AX h.1;refine AMX (fun L n acc=>?_) (by omega);unfold fy Wd;simp only[BQ,AV,AI,AP,Aq];by_cases h:n>=128
  .grind
  .rw[AR h,AW (by omega)]
 .rfl
def rdN:Nat->Nat->Nat->List UInt8->AA (Nat×Nat)
 |0,_,_,_=>none|_+1,_,_,[]=>none|f+1,k,a,d::l=>
  if d.toNat<128 then (if (0<k/\d.toNat=0)\/2147483647<a+(d.toNat % 128)*2 ^ (7*k) then none else some (a+(d.toNat % 128)*2 ^ (7*k),k+1))
  else rdN f (k+1) (a+(d.toNat % 128)*2 ^ (7*k)) l
def vW(at_:Nat):AA (Nat×Nat)->Int×Int×Bool|some (n,m)=>((n:Int),((at_+m:Nat):Int),true)|none=>(0,0,false)
def gN(b:List UInt8)(i:Int):Int×Int×Bool:=if 0<=i/\i<b.length then vW i.toNat (rdN 5 0 0 (b.drop i.toNat)) else (0,0,false)
theorem AEl{c s:Nat}(g:c<128)(a:s<=28):pM (c:Int) (s:Int)=((c*2 ^ s:Nat):Int):=by
 have e:c*2 ^ s<2 ^ 35:=by
  have:2 ^ s<=2 ^ 28:=GC (by omega) a
  calc c*2 ^ s<=127*2 ^ 28:=Nat.mul_le_mul (by omega) this
   _<2 ^ 35:=by decide
 grind[IntKind.bits,UP]
theorem QB{n:Nat}(h:n<2 ^ 63):(BitVec.ofInt IntKind.i64.bits (n:Int)).toNat=n:=by
 simp only[IntKind.bits,BitVec.toNat_ofInt];omega
theorem AWw{a b:Nat}(c:a<2 ^ 63)(e:b<2 ^ 63):orI (a:Int) (b:Int)=((a |||b:Nat):Int):=by
 unfold orI;rw[BitVec.toNat_or,QB c,QB e];have:a |||b<2 ^ 63:=Nat.or_lt_two_pow c e;rw[UP (by omega) (by omega)]
theorem AY0{a c s:Nat}(e:a<2 ^ s):a |||c*2 ^ s=a+c*2 ^ s:=by
 have:=Nat.two_pow_add_eq_or_of_lt e c;rw[Nat.or_comm,Nat.mul_comm,<-this,Nat.add_comm]
theorem AEH:∀(k n:Nat),n<128 ^ (k+1)->((FQ n).length=k+1↔k=0\/128 ^ k<=n)
 |0,n,h=>by rw[Ok (by simpa using h)];simp|k+1,n,h=>by
  rcases AZ n 128 with a|a
  .grind[Ok]
  .rw[UG a];have c:n / 128<128 ^ (k+1):=by rw[Co (by omega)];rw[He]at h;exact h
   have:=AEH k (n / 128) c;have e:128 ^ k<=n / 128↔128 ^ (k+1)<=n:=by rw[Nat.le_div_iff_mul_le (by omega),He]
   grind
theorem AY4(k:Nat):(2:Nat) ^ (7*k)=128 ^ k:=by rw[Nat.pow_mul]
theorem digit{a k c:Nat}(j:k<5)(g:a<128 ^ k)(h:c<128):a+c*2 ^ (7*k)<128 ^ (k+1)/\a+c*2 ^ (7*k)<2 ^ 35:=by
 rw[AY4];have e:a+c*128 ^ k<128 ^ (k+1):=by
  have:c*128 ^ k<=127*128 ^ k:=Ai _ (by omega);rw[He];omega
 refine⟨e,Nat.lt_of_lt_of_le e ?_⟩
 calc 128 ^ (k+1)<=128 ^ 5:=GC (by omega) (by omega)
  _=2 ^ 35:=by decide
theorem QN{b:List UInt8}(I:b.length<2 ^ 62){i:Nat}(hi:i<2 ^ 62):∀(f k a n:Nat),f+k=5->f<n->a<128 ^ k ->
 BD (Abh b i) n ((a:Int),(k:Int))=some (vW i (rdN f k a (b.drop (i+k))))
 |0,k,a,n,Q,X,g=>by
  obtain⟨n,rfl⟩:∃m,n=m+1:=⟨n-1,by omega⟩;rw[EP];unfold Abh Afu;simp only[BQ,AV];rw[AR (by omega)];rfl
 |f+1,k,a,n,Q,X,g=>by
  obtain⟨n,rfl⟩:∃m,n=m+1:=⟨n-1,by omega⟩;rw[EP];generalize hL:BD (Abh b i) n=L;unfold Abh;simp only[BQ,AV];rw[AW (by omega),AR (by omega)];unfold Ab8 Ab9;simp only[BQ,AV,BP,Bi,ge_iff_le,beq_iff_eq,decide_eq_true_eq];rw[A2 (n:=(b.length:Int)-k) (by omega) (by omega)];cases e:b.drop (i+k) with
  |nil=>
   have:b.length<=i+k:=F9.1 e;rw[AW (by omega)];rfl
  |cons d l=>
   have S:i+k<b.length:=by
    rcases AZ (i+k) b.length with h|h
    .exact h
    .rw[BA h]at e;cases e
   have J:b[i+k]?=some d:=by
    have:=Bq (xs:=b) (i:=i+k) (j:=0);rw[e]at this;simpa using this.symm
   have q:b.drop (i+(k+1))=l:=by
    rw[<-CQ,<-DL,e];rfl
   rw[AR (by omega),A2 (n:=(i:Int)+k) (by omega) (by omega),show (i:Int)+k=((i+k:Nat):Int) from by push_cast;rfl,Jw,J,AB];have O:d.toNat<256:=d.toNat_lt;have G:w64 (7*(k:Int))=((7*k:Nat):Int):=by rw[A2 (by omega) (by omega)];push_cast;rfl
   have ed:w64 ((d.toNat:Nat):Int)=(d.toNat:Int):=A2 (by omega) (by omega);have em:Int.tmod (d.toNat:Int) 128=((d.toNat % 128:Nat):Int):=by rw[D6 (by omega)];rfl
   obtain⟨B,Y⟩:=digit (a:=a) (k:=k) (c:=d.toNat % 128) (by omega) g (by omega);have y:orI (a:Int) (pM ((d.toNat % 128:Nat):Int) ((7*k:Nat):Int))=((a+(d.toNat % 128)*2 ^ (7*k):Nat):Int):=by
    rw[AEl (by omega) (by omega)];rw[AWw (by have:=GC (n:=128) (by omega) (show k<=5 by omega);omega) (by omega),AY0 (by rw[AY4];exact g)]
   rw[G,B8 (by omega),ed,em,y];simp only[rdN];have E:w64 ((k:Int)+1)=((k+1:Nat):Int):=A2 (by omega) (by omega);by_cases H:d.toNat<128
   .grind[vW,Prod.mk.injEq,A2]
   .rw[AR (by omega),AR H,E,<-hL,QN I hi f (k+1) _ n (by omega) (by omega) B,q]
theorem P1{b:List UInt8}(Q:b.length<2 ^ 62){i:Nat}(hi:i<2 ^ 62):∀(f k a n:Nat),f+k=5->f<n->a<128 ^ k ->
 BD (gb b i) n ((a:Int),(k:Int))=some (vW i (rdN f k a (b.drop (i+k))))
 |0,k,a,n,Y,hn,G=>by
  obtain⟨n,rfl⟩:∃m,n=m+1:=⟨n-1,by omega⟩;rw[EP];unfold gb ABe AdU;simp only[BQ,AV];rw[AR (by omega)];rfl
 |f+1,k,a,n,Y,hn,G=>by
  obtain⟨n,rfl⟩:∃m,n=m+1:=⟨n-1,by omega⟩;rw[EP];generalize hL:BD (gb b i) n=L;unfold gb;simp only[BQ,AV];rw[AW (by omega)];unfold ABe AdU;simp only[BQ,AV,Bi,bne_iff_ne,KM,AB,decide_eq_true_eq];rw[A2 (n:=(i:Int)+k) (by omega) (by omega),show (i:Int)+k=((i+k:Nat):Int) from by push_cast;rfl];cases e:b.drop (i+k) with
  |nil=>
   have:b.length<=i+k:=F9.1 e;rw[AR (by omega)];rfl
  |cons d l=>
   have hlt:i+k<b.length:=by
    rcases AZ (i+k) b.length with h|h
    .exact h
    .rw[BA h]at e;cases e
   have S:b[i+k]?=some d:=by
    have:=Bq (xs:=b) (i:=i+k) (j:=0);rw[e]at this;simpa using this.symm
   have y:b.drop (i+(k+1))=l:=by
    rw[<-CQ,<-DL,e];rfl
   rw[AW (by omega),Jw,S,AB];have X:d.toNat<256:=d.toNat_lt;have J:w64 (7*(k:Int))=((7*k:Nat):Int):=by rw[A2 (by omega) (by omega)];push_cast;rfl
   have ed:w64 ((d.toNat:Nat):Int)=(d.toNat:Int):=A2 (by omega) (by omega);have em:Int.tmod (d.toNat:Int) 128=((d.toNat % 128:Nat):Int):=by rw[D6 (by omega)];rfl
   obtain⟨q,hs2⟩:=digit (a:=a) (k:=k) (c:=d.toNat % 128) (by omega) G (by omega);have B:w64 ((a:Int)+(pM ((d.toNat % 128:Nat):Int) ((7*k:Nat):Int)))=((a+(d.toNat % 128)*2 ^ (7*k):Nat):Int):=by
    rw[AEl (by omega) (by omega),A2 (by omega) (by omega)];push_cast;rfl
   rw[J,B8 (by omega),ed,em,B];simp only[rdN,KM,AB];have I:w64 ((k:Int)+1)=((k+1:Nat):Int):=A2 (by omega) (by omega);rw[I];by_cases E:d.toNat<128
   .rw[AW (by omega),AW E];have g:128 ^ k<=a+(d.toNat % 128)*2 ^ (7*k)↔d.toNat≠0:=by
     rw[AY4];constructor
     .rintro h O;rw[O]at h;simp at h;omega
     .intro h;have:1*128 ^ k<=d.toNat % 128*128 ^ k:=Ai _ (by omega);omega
    have H:((pN ((a+(d.toNat % 128)*2 ^ (7*k):Nat):Int)).length:Int)≠((k+1:Nat):Int)↔(0<k/\d.toNat=0)\/2147483647<a+(d.toNat % 128)*2 ^ (7*k):=by
     unfold pN;split
     .rename_i Z;rw[Ac];have:=AEH k _ q;rw[g]at this;rw[Ne,Int.ofNat_inj,this];omega
     .simp only[AP];omega
    grind[vW,A2]
   .rw[AR (by omega),AR E,<-hL,P1 Q hi f (k+1) _ n (by omega) (by omega) q,y]
theorem On{b:List UInt8}(c:b.length<2 ^ 62)(i:Int)(hi:i<2 ^ 62):Wj b i=some (gN b i):=by
 unfold Wj gN;by_cases a:0<=i
 .obtain⟨j,rfl⟩:=AX a;have:=QN c (i:=j) (by omega) 5 0 0 big (by omega) (JK _ (by omega)) (by omega);refine Eq.trans this ?_;simp only[Ac,Nat.add_zero];split
  .rfl
  .rw[BA (by omega)];rfl
 .obtain⟨n,e⟩:=R9 0 (by omega)
  grind[EP,Abh,Ab8,BQ,AV]
theorem Oe{b:List UInt8}(c:b.length<2 ^ 62)(i:Int):Nq b i=some (gN b i):=by
 unfold Nq gN;simp only[QT,AB,BK,BQ];rw[A2 (by omega) (by omega)];by_cases a:0<=i/\i<b.length
 .obtain⟨j,rfl⟩:=AX a.1;rw[AW (by omega),AW a];have:=P1 c (i:=j) (by omega) 5 0 0 big (by omega) (JK _ (by omega)) (by omega)
  grind
 grind
theorem AXr{n:Nat}(h:n<256):(UInt8.ofNat n).toNat=n:=by simp;omega
theorem yu:∀(f k a n:Nat) (l:List UInt8),(FQ n).length<=f->(k=0\/n≠0)->a+n*2 ^ (7*k)<=2147483647->rdN f k a (FQ n++l)=some (a+n*2 ^ (7*k),k+(FQ n).length)
 |0,k,a,n,l,h,_,_=>by have:=IG n;omega|f+1,k,a,n,l,h,q,j=>by
  rcases AZ n 128 with c|c
  .rw[Ok c];simp only[Ew,CB,rdN,AI,AP];rw[AXr (by omega),AW c,KG c,AR (by omega)]
  .rw[UG c]at h ⊢;simp only[Ew,rdN,AI]at h ⊢;rw[AXr (by omega),AR (by omega)];have e:(n % 128+128) % 128=n % 128:=by omega
   have g:a+n % 128*2 ^ (7*k)+n / 128*2 ^ (7*(k+1))=a+n*2 ^ (7*k):=by
    grind[Nat.mod_add_div]
   rw[e,yu f (k+1) _ (n / 128) l (by omega) (by omega) (by rw[g];exact j),g];congr 2;omega
theorem dn:∀(f k a:Nat) (l:List UInt8) (N m:Nat),rdN f k a l=some (N,m)->∃n l',l=FQ n++l'/\N=a+n*2 ^ (7*k)/\m=k+(FQ n).length/\(k=0\/n≠0)/\N<=2147483647
 |0,k,a,l,N,m,h=>by cases h
 |f+1,k,a,[],N,m,h=>by cases h
 |f+1,k,a,d::l,N,m,h=>by
  have y:d.toNat<256:=d.toNat_lt;simp only[rdN]at h;split at h
  .rename_i e;split at h
   .cases h
   .rename_i B;cases h;refine⟨d.toNat,l,?_,?_,?_,by omega,by omega⟩
    .rw[Ok e];simp
    .rw[KG e]
    .rw[Ok e];rfl
  .rename_i e;obtain⟨n,l',g,E,j,G,q⟩:=dn f (k+1) _ l N m h;have H:n≠0:=by omega
   have c:128<=d.toNat % 128+128*n:=by omega
   refine⟨d.toNat % 128+128*n,l',?_,?_,?_,.inr (by omega),q⟩
   .rw[UG c,show (d.toNat % 128+128*n) % 128+128=d.toNat by omega,show (d.toNat % 128+128*n) / 128=n by omega,g];simp
   .grind
   .rw[UG c,show (d.toNat % 128+128*n) / 128=n by omega,j];simp only[AI];omega
def rdL:Nat->List UInt8->AA (List Int)
 |0,_=>none|f+1,[]=>some []|f+1,l=>match rdN 5 0 0 l with|some (n,m)=>(rdL f (l.drop m)).map ((n:Int)::·)|none=>none
def okN(n:Int):Prop:=0<=n/\n<=2147483647
def pL(l:List Int):List UInt8:=l.flatMap pN
theorem ATa{n:Int}(h:okN n):pN n=FQ n.toNat:=by unfold pN;rw[AW (show 0<=n/\n<=2147483647 from h)]
theorem yk{n:Int}(h:okN n):0<(pN n).length:=by rw[ATa h];exact IG _
theorem AY7{n:Int}(h:okN n)(l:List UInt8):rdN 5 0 0 (pN n++l)=some (n.toNat,(pN n).length):=by
 rw[ATa h,yu 5 0 0 n.toNat l (KP (by have:=h.2;omega)) (.inl rfl) (by have:=h.2;simp;omega)];simp
theorem yt:∀(l:List Int) (f:Nat),(∀n∈l,okN n)->(pL l).length<f->rdL f (pL l)=some l
 | [],f,_,h=>by
  obtain⟨f,rfl⟩:∃g,f=g+1:=⟨f-1,by omega⟩;rfl
 |n::l,f,j,h=>by
  obtain⟨f,rfl⟩:∃g,f=g+1:=⟨f-1,by omega⟩;have a:=j n (by simp);have q:=yk a;have e:pL (n::l)=pN n++pL l:=by simp[pL]
  rw[e]at h ⊢;have c:pN n++pL l≠[]:=by intro h;rw[Hw]at h;rw[h.1]at q;simp at q
  rw[rdL.eq_3 _ _ (by simpa using c),AY7 a];simp only[Ef];rw[yt l f (fun m y=>j m (by simp[y])) (by rw[AK]at h;omega)];simp only[Option.map_some,Int.toNat_of_nonneg a.1]
theorem YN:∀(f:Nat) (s:List UInt8) (l:List Int),rdL f s=some l->s=pL l/\∀n∈l,okN n
 |0,s,l,h=>by cases h
 |f+1,[],l,h=>by cases h;exact⟨rfl,by simp⟩
 |f+1,d::s,l,h=>by
  rw[rdL.eq_3 _ _ (by simp)]at h;split at h
  .rename_i n m B;obtain⟨H,l',c,e,g,_,G⟩:=dn _ _ _ _ _ _ B;simp only[Nat.mul_zero,Nat.pow_zero,Nat.mul_one,Aq]at e g;subst e g;rw[Option.map_eq_some_iff]at h;obtain⟨E,j,rfl⟩:=h;rw[c,Ef]at j;obtain⟨q,y⟩:=YN f l' E j;refine⟨?_,?_⟩
   .rw[c,q];simp only[pL,CZ];rw[ATa ⟨by omega,by omega⟩];simp
   .intro x a;rcases List.mem_cons.1 a with rfl|a
    .exact⟨by omega,by omega⟩
    .exact y x a
  .cases h
def AIc:AA (List Int)->List Int×Bool|some l=>(l,true)|none=>([],false)
theorem nX{b:List UInt8}(y:b.length<=1048576){G:List UInt8->Int->AA (Int×Int×Bool)}(hG:∀i:Int,i<2 ^ 62->G b i=some (gN b i))
 {F:(List Int×Int->AA (List Int×Bool))->List Int×Int->AA (List Int×Bool)}
 (hF:∀L acc i,F L (acc,i)=if i<(b.length:Int) then bd (G b i) fun x=>br (!x.2.2) (some ([],false)) (gd (acc.length+1<=lim) (L (acc++[x.1],x.2.1))) else some (acc,true)) :
 ∀(f i n:Nat) (acc:List Int),b.length<f+i->f<=n->acc.length<=i->i<=b.length->BD F n (acc,(i:Int))=some (match rdL f (b.drop i) with|some l=>(acc++l,true)|none=>([],false))
 |0,i,n,acc,e,g,j,q=>by omega|f+1,i,n,acc,e,g,j,q=>by
  obtain⟨n,rfl⟩:∃m,n=m+1:=⟨n-1,by omega⟩;rw[EP,hF];by_cases hi:i<b.length
  .rw[AW (by omega),hG _ (by omega),AB];unfold gN;rw[AW (by omega),Ac];have c:b.drop i≠[]:=by intro h;rw[F9]at h;omega
   rw[rdL.eq_3 _ _ (by simpa using c)];cases B:rdN 5 0 0 (b.drop i) with
   |none=>rfl|some p=>
    obtain⟨v,m⟩:=p;obtain⟨H,l',E,J,O,_,_⟩:=dn _ _ _ _ _ _ B;have I:0<m:=by have:=IG H;omega
    have a:i+m<=b.length:=by
     have:=congrArg List.length E;rw[List.length_drop,AK]at this;omega
    simp only[vW,BK,BP];rw[B8 (by unfold lim;omega),nX y hG hF f (i+m) n (acc++[(v:Int)]) (by omega) (by omega) (by rw[AK];simp;omega) a,<-DL]
    grind
  .rw[AR (by omega),BA (by omega)];simp[rdL]
theorem Ye{b:List UInt8}(a:b.length<=1048576):ga b=some (AIc (rdL (b.length+1) b)):=by
 unfold ga;have:=nX a (G:=Wj) (F:=ABd b) (fun i hi=>On (by omega) i hi) (fun L acc i=>by unfold ABd ABc;simp only[BQ,AV];rfl) (b.length+1) 0 big [] (by omega) (by have:=Qe;omega) (by simp) (by omega);refine Eq.trans this ?_;simp only[Cs,CB];cases rdL (b.length+1) b<;>rfl
theorem Xp{b:List UInt8}(a:b.length<=1048576):bB b=some (AIc (rdL (b.length+1) b)):=by
 unfold bB;have:=nX a (G:=Nq) (F:=AdI b) (fun i hi=>Oe (by omega) i) (fun L acc i=>by unfold AdI Aff;simp only[BQ,AV];rfl) (b.length+1) 0 big [] (by omega) (by have:=Qe;omega) (by simp) (by omega);refine Eq.trans this ?_;simp only[Cs,CB];cases rdL (b.length+1) b<;>rfl
theorem nM{l:List Int}(h:l.length<=10000000){G:Int->AA (List UInt8)}(hG:∀n,G n=some (pN n))
 {F:(List UInt8×Int->AA (List UInt8))->List UInt8×Int->AA (List UInt8)}
 (hF:∀L acc i,F L (acc,i)=if i<(l.length:Int) then bd (at? l i) fun x=>bd (G x) fun y=>gd (acc.length+y.length<=lim) (L (acc++y,w64 (i+1))) else some acc) :
 ∀(f i n:Nat) (acc:List UInt8),l.length<f+i->f<=n->acc.length<=5*i->i<=l.length->BD F n (acc,(i:Int))=some (acc++pL (l.drop i))
 |0,i,n,acc,a,c,e,g=>by omega|f+1,i,n,acc,a,c,e,g=>by
  obtain⟨n,rfl⟩:∃m,n=m+1:=⟨n-1,by omega⟩;rw[EP,hF];by_cases hi:i<l.length
  .rw[AW (by omega),Jw,AS hi,AB,hG,AB];have:=PH l[i];rw[B8 (by unfold lim;omega),A2 (by omega) (by omega)];have:=nM h hG hF f (i+1) n (acc++pN l[i]) (by omega) (by omega) (by rw[AK];omega) hi;refine Eq.trans this ?_;rw[G6 hi];simp only[pL,CZ,List.append_assoc]
  .rw[AR (by omega),BA (by omega)];simp[pL]
theorem Yd{l:List Int}(a:l.length<=10000000):fk l=some (pL l):=by
 unfold fk;have:=nM a (G:=AA2) (F:=AA5 l) TY (fun L acc i=>by unfold AA5 AA4;simp only[BQ,AV]) (l.length+1) 0 big [] (by omega) (by have:=Qe;omega) (by simp) (by omega);simpa using this
theorem Xq{l:List Int}(a:l.length<=10000000):WR l=some (pL l):=by
 unfold WR;have:=nM a (G:=ABB) (F:=AAn l) KM (fun L acc i=>by unfold AAn AAm;simp only[BQ,AV]) (l.length+1) 0 big [] (by omega) (by have:=Qe;omega) (by simp) (by omega);simpa using this
def fld(n:Int):Bool:=decide (0<=n/\n<=9999)
def Hq(q:B3):Bool:=
 if q.Kind=1 then fld q.Id&&fld q.Ab&&decide (-1<=q.Bu/\q.Bu<=9999)&&fld q.BE&&fld q.DJ
 else if q.Kind=2\/q.Kind=4\/q.Kind=5\/q.Kind=7 then fld q.Id&&(q.Ab==0&&(q.Bu==0&&(q.BE==0&&q.DJ==0)))
 else if q.Kind=3 then fld q.Ab&&fld q.BE&&(q.Id==0&&(q.Bu==0&&q.DJ==0))
 else if q.Kind=6 then q.Id==0&&(q.Ab==0&&(q.Bu==0&&(q.BE==0&&q.DJ==0)))
 else false
def E5(q:B3):List Int:=
 if q.Kind=1 then [q.Kind,q.Id,q.Ab,q.Bu+1,q.BE,q.DJ]
 else if q.Kind=3 then [q.Kind,q.Ab,q.BE]
 else if q.Kind=6 then [q.Kind]
 else [q.Kind,q.Id]
def Gu(q:B3):List UInt8:=if Hq q then pL (E5 q) else []
@[simp] theorem AIu(n:Int):cQ n=some (fld n):=by unfold cQ fld;simp
@[simp] theorem AHn(n:Int):Ri n=some (fld n):=by unfold Ri fld;simp
theorem AIt(q:B3):ub q=some (Hq q):=by
 obtain⟨k,a,b,c,d,e⟩:=q;unfold ub Im Ts Im Hq;simp only[Bi,AV,AIu,AB,de,beq_iff_eq]
 grind
theorem AHl(q:B3):WZ q=some (Hq q):=by
 obtain⟨k,a,b,c,d,e⟩:=q;unfold WZ G9 Ph G9 Hq;simp only[Bi,AV,AHn,AB,QT,beq_iff_eq]
 grind
theorem JD{q:B3}(h:Hq q=true):(q.Kind=1/\(0<=q.Id/\q.Id<=9999)/\(0<=q.Ab/\q.Ab<=9999)/\(-1<=q.Bu/\q.Bu<=9999)/\(0<=q.BE/\q.BE<=9999)/\(0<=q.DJ/\q.DJ<=9999)) \/
 ((q.Kind=2\/q.Kind=4\/q.Kind=5\/q.Kind=7)/\(0<=q.Id/\q.Id<=9999)/\q.Ab=0/\q.Bu=0/\q.BE=0/\q.DJ=0) \/
 (q.Kind=3/\(0<=q.Ab/\q.Ab<=9999)/\(0<=q.BE/\q.BE<=9999)/\q.Id=0/\q.Bu=0/\q.DJ=0) \/
 (q.Kind=6/\q.Id=0/\q.Ab=0/\q.Bu=0/\q.BE=0/\q.DJ=0):=by
 unfold Hq fld at h;split at h
 .grind
 split at h
 .grind
 split at h
 .grind
 grind
theorem nc{q:B3}(h:Hq q=true):∀n∈E5 q,okN n:=by
 grind[JD,E5,okN]
theorem bz(q:B3):0<(E5 q).length/\(E5 q).length<=6:=by
 grind[E5]
theorem Uy{q:B3}:AJw q=some (Gu q):=by
 unfold AJw Gu;rw[AIt,AB,BK,Bi]
 grind[Hq,E5,Bi,A2,Yd,AB]
theorem Um{q:B3}:gV q=some (Gu q):=by
 grind[gV,gW,Gu,AHl,AB,Bi,Hq,E5,AV,B8,lim,A2,Xq]
theorem TM{n:Int}{l:List Int}(h:okN n):pL (n::l)≠[]:=by
 intro a;have:=yk h;simp only[pL,CZ,Hw]at a
 grind
theorem AMg{q:B3}(h:Hq q=true):Gu q≠[]:=by
 grind[Gu,nc,E5,TM]
theorem ATZ:∀l:List Int,(pL l).length<=5*l.length
 | []=>by simp[pL]|n::l=>by
  have c:=PH n;have a:=ATZ l;simp only[pL,CZ,AK,AI]at a ⊢;omega
theorem AU6(q:B3):(Gu q).length<=30:=by
 grind[Gu,ATZ,bz]
theorem QJ{q:B3}(h:Hq q=true)(f:Nat)(a:(Gu q).length<f):rdL f (Gu q)=some (E5 q):=by
 grind[Gu,yt,nc]
noncomputable def M3(s:List UInt8):B3×Bool:=open Classical in if h:∃q,Hq q=true/\Gu q=s then (h.choose,true) else (⟨0,0,0,0,0,0⟩,false)
theorem AEY{q q':B3}(h:Hq q=true)(a:Hq q'=true)(c:E5 q=E5 q'):q=q':=by
 grind[B3,E5,JD]
theorem AU5{q q':B3}(h:Hq q=true)(a:Hq q'=true)(e:Gu q=Gu q'):q=q':=by
 have c:=QJ h ((Gu q).length+1) (by omega)
 grind[QJ,AEY]
theorem AU7{q:B3}(h:Hq q=true):M3 (Gu q)=(q,true):=by
 unfold M3;have a:∃q',Hq q'=true/\Gu q'=Gu q:=⟨q,h,rfl⟩
 grind[AU5]
theorem Li{s:List UInt8}(h:∀q,Hq q=true->Gu q≠s):M3 s=(⟨0,0,0,0,0,0⟩,false):=by
 grind[M3]
theorem uJ{γ:Type}(a b:List UInt8)(x y:AA γ):br (a != b) x y=if a=b then y else x:=by
 unfold br
 grind[grind]
theorem cV(s:List UInt8)(q:B3):Abi s q=if Gu q=s then some (q,true) else some (⟨0,0,0,0,0,0⟩,false):=by
 unfold Abi;rw[Uy,AB,uJ]
theorem cR(s:List UInt8)(q:B3):Abf s q=if Gu q=[]\/Gu q≠s then some (⟨0,0,0,0,0,0⟩,false) else some (q,true):=by
 grind[Abf,AdJ,Um,AB,AV,BP,Gu,Bi]
theorem KR{s:List UInt8}{q:B3}(a:s≠[])(h:∀q',Hq q'=true->Gu q'=s->q'=q):(if Gu q=s then some (q,true) else some (⟨0,0,0,0,0,0⟩,false))=some (M3 s):=by
 grind[Gu,Hq,AU7,Li]
theorem s5{s:List UInt8}{f:Nat}(h:rdL f s=none)(a:s.length<f):∀q,Hq q=true->Gu q≠s:=by
 grind[QJ]
theorem Ya{s:List UInt8}(S:s.length<=1048576):AJz s=some (M3 s):=by
 unfold AJz;rw[BQ];by_cases H:(s.length:Int)>60
 .rw[AW H,Li];rintro q _ rfl;have:=AU6 q;omega
 rw[AR H,Ye S,AB];cases L:rdL (s.length+1) s with
 |none=>
  simp only[AIc,BK,Bb,AV];unfold AcA;rw[BP,Li (s5 L (by omega))]
 |some l=>
  obtain⟨J,I⟩:=YN _ _ _ L;simp only[AIc,BK,BP,AV];unfold AcA;cases l with
  |nil=>
   simp only[AP];show br true _ _=_;rw[BP,Li];rintro q j B;exact AMg j (B.trans J)
  |cons n l=>
   have E:s≠[]:=by rw[J];exact TM (I n (by simp))
   have O:((((n::l).length:Nat):Int)==0)=false:=by rw[AI,beq_eq_false_iff_ne];omega
   have G:∀q,Hq q=true->Gu q=s->E5 q=n::l:=by
    rintro q j rfl;have:=QJ j ((Gu q).length+1) (by omega);rw[L]at this;simpa using this.symm
   simp only[O,Bb];simp only[V7,AM,AB,cV,AV,Bi,beq_iff_eq];have okq:∀m∈n::l,0<=m/\m<=2147483647:=fun m Q=>I m Q
   match l,G,okq with
   | [],G,_=>
    rw[AR (by simp),AR (by simp),AR (by simp)];refine KR E fun q j B=>?_
    obtain⟨k,a,b,c,d,e⟩:=q;have g:=G _ j B;unfold E5 at g;rcases JD j with h|h|h|h<;>dsimp only at h g
    .rw[AW h.1]at g;simp at g
    .rw[AR (by omega),AR (by omega),AR (by omega)]at g;simp at g
    .rw[AR (by omega),AW h.1]at g;simp at g
    .rw[AR (by omega),AR (by omega),AW h.1]at g;simp at g;simp;omega
   | [x],G,okq=>
    rw[AW (by simp)];simp only[show at? [n,x] 1=some x from rfl,AB];refine KR E fun q j B=>?_
    obtain⟨k,a,b,c,d,e⟩:=q;have g:=G _ j B;unfold E5 at g;rcases JD j with h|h|h|h<;>dsimp only at h g
    .rw[AW h.1]at g;simp at g
    .rw[AR (by omega),AR (by omega),AR (by omega)]at g;simp at g;simp;omega
    .rw[AR (by omega),AW h.1]at g;simp at g
    .rw[AR (by omega),AR (by omega),AW h.1]at g;simp at g
   | [x,y],G,okq=>
    rw[AR (by simp),AW (by simp)];simp only[show at? [n,x,y] 1=some x from rfl,show at? [n,x,y] 2=some y from rfl,AB];refine KR E fun q j B=>?_
    obtain⟨k,a,b,c,d,e⟩:=q;have g:=G _ j B;unfold E5 at g;rcases JD j with h|h|h|h<;>dsimp only at h g
    .rw[AW h.1]at g;simp at g
    .rw[AR (by omega),AR (by omega),AR (by omega)]at g;simp at g
    .rw[AR (by omega),AW h.1]at g;simp at g;simp;omega
    .rw[AR (by omega),AR (by omega),AW h.1]at g;simp at g
   | [x,y,z,u,v],G,okq=>
    have X:=okq z (by simp);rw[AR (by simp),AR (by simp),AW (by simp)];simp only[show at? [n,x,y,z,u,v] 1=some x from rfl,show at? [n,x,y,z,u,v] 2=some y from rfl,show at? [n,x,y,z,u,v] 3=some z from rfl,show at? [n,x,y,z,u,v] 4=some u from rfl,show at? [n,x,y,z,u,v] 5=some v from rfl,AB];rw[A2 (by omega) (by omega)];refine KR E fun q j B=>?_
    obtain⟨k,a,b,c,d,e⟩:=q;have g:=G _ j B;unfold E5 at g;rcases JD j with h|h|h|h<;>dsimp only at h g
    .rw[AW h.1]at g;simp at g;simp;omega
    .rw[AR (by omega),AR (by omega),AR (by omega)]at g;simp at g
    .rw[AR (by omega),AW h.1]at g;simp at g
    .rw[AR (by omega),AR (by omega),AW h.1]at g;simp at g
   | [x,y,z],G,okq=>
    rw[AR (by simp),AR (by simp),AR (by simp)];refine KR E fun q j B=>?_
    have g:=congrArg List.length (G _ j B)
    have:(E5 q).length≠4:=by unfold E5;repeat' split
                             all_goals simp
    simp at g;omega
   | [x,y,z,u],G,okq=>
    rw[AR (by simp),AR (by simp),AR (by simp)];refine KR E fun q j B=>?_
    have g:=congrArg List.length (G _ j B)
    have:(E5 q).length≠5:=by unfold E5;repeat' split
                             all_goals simp
    simp at g;omega
   |x::y::z::u::v::w::r,G,okq=>
    rw[AR (by simp;omega),AR (by simp;omega),AR (by simp;omega)];refine KR E fun q j B=>?_
    have g:=congrArg List.length (G _ j B);have:=(bz q).2;simp at g;omega
theorem Xr{s:List UInt8}{q:B3}(a:s≠[])(h:∀q',Hq q'=true->Gu q'=s->q'=q):(if Gu q=[]\/Gu q≠s then some (⟨0,0,0,0,0,0⟩,false) else some (q,true))=some (M3 s):=by
 grind[KR,Gu]
theorem xu{s:List UInt8}(hs:s.length<=1048576):ABD s=some (M3 s):=by
 unfold ABD;rw[Xp hs,AB];cases Z:rdL (s.length+1) s with
 |none=>
  simp only[AIc,BK,Bb,AV];unfold SN;rw[BP,Li (s5 Z (by omega))]
 |some l=>
  obtain⟨I,H⟩:=YN _ _ _ Z;simp only[AIc,BK,BP,AV];unfold SN;cases l with
  |nil=>
   simp only[AP];show br true _ _=_;rw[BP,Li];rintro q j G;exact AMg j (G.trans I)
  |cons n l=>
   have B:s≠[]:=by rw[I];exact TM (H n (by simp))
   have hb:((((n::l).length:Nat):Int)==0)=false:=by rw[AI,beq_eq_false_iff_ne];omega
   have hq:∀q,Hq q=true->Gu q=s->E5 q=n::l:=by
    rintro q j rfl;have:=QJ j ((Gu q).length+1) (by omega);rw[Z]at this;simpa using this.symm
   have Y:(n::l).length<=s.length:=by
    rw[I];have:∀l:List Int,(∀m∈l,okN m)->l.length<=(pL l).length:=by
     intro l
     induction l with
     |nil=>simp|cons m l ih=>
      intro h;have j:=yk (h m (by simp));have G:=ih fun x J=>h x (by simp[J])
      simp only[pL,CZ,AK,AI]at G ⊢;omega
    exact this _ H
   rw[AI]at Y;have e1:Int.toNat 1=1:=rfl;have e5:Int.toNat 5=5:=rfl;have ed:List.take ((n::l).length-1) (List.drop 1 (n::l))=l:=by simp
   simp only[hb,Bb];simp only[V7,AM,AB,cR,AV,Bi,beq_iff_eq,e1,e5,ed];rw[B8 (by simp;omega),B8 (by simp;omega),B8 (by unfold lim;omega)];have okq:∀m∈n::l,0<=m/\m<=2147483647:=fun m hm=>H m hm
   have J:∀(i:Nat),i<5->∃x,(l++List.replicate 5 (0:Int))[i]?=some x/\(0<=x/\x<=2147483647)/\(∀y,l[i]?=some y->x=y):=by
    intro i hi;have O:i<(l++List.replicate 5 (0:Int)).length:=by rw[AK,List.length_replicate];omega
    refine⟨_,AS O,?_,?_⟩
    .have:(l++List.replicate 5 (0:Int))[i]∈l++List.replicate 5 (0:Int):=List.getElem_mem O;rw[List.mem_append,List.mem_replicate]at this;rcases this with h|h
     .exact okq _ (List.mem_cons_of_mem _ h)
     .omega
    .intro y hy;have X:=(List.getElem?_eq_some_iff.1 hy);obtain⟨j,G⟩:=X;rw[List.getElem_append_left j,G]
   obtain⟨S,hx0,b0,i0⟩:=J 0 (by omega);obtain⟨x1,hx1,b1,i1⟩:=J 1 (by omega);obtain⟨x2,hx2,b2,i2⟩:=J 2 (by omega);obtain⟨x3,hx3,b3,i3⟩:=J 3 (by omega);obtain⟨x4,hx4,b4,i4⟩:=J 4 (by omega);have a0:(l++List.replicate 5 (0:Int))[0]?=some S:=hx0;have a1:at? (l++List.replicate 5 (0:Int)) 1=some x1:=by rw[show (1:Int)=((1:Nat):Int) from rfl,Jw];exact hx1
   have a2:at? (l++List.replicate 5 (0:Int)) 2=some x2:=by rw[show (2:Int)=((2:Nat):Int) from rfl,Jw];exact hx2
   have a3:at? (l++List.replicate 5 (0:Int)) 3=some x3:=by rw[show (3:Int)=((3:Nat):Int) from rfl,Jw];exact hx3
   have a4:at? (l++List.replicate 5 (0:Int)) 4=some x4:=by rw[show (4:Int)=((4:Nat):Int) from rfl,Jw];exact hx4
   simp only[a0,a1,a2,a3,a4,AB];rw[A2 (n:=x2-1) (by omega) (by omega)];have shape:∀q,Hq q=true->Gu q=s->q=(if n=1 then ⟨n,S,x1,x2-1,x3,x4⟩ else if n=3 then ⟨n,0,S,0,x1,0⟩ else if n=6 then ⟨n,0,0,0,0,0⟩ else ⟨n,S,0,0,0,0⟩):=by
    intro q j G;obtain⟨k,a,b,c,d,e⟩:=q;have g:=hq _ j G;unfold E5 at g;rcases JD j with h|h|h|h<;>dsimp only at h g
    .rw[AW h.1]at g;obtain⟨rfl,rfl⟩:=List.cons.inj g;rw[AW h.1];have j0:=i0 _ rfl;have j1:=i1 _ rfl;have j2:=i2 _ rfl;have j3:=i3 _ rfl;have j4:=i4 _ rfl;simp;omega
    .rw[AR (by omega),AR (by omega),AR (by omega)]at g;obtain⟨rfl,rfl⟩:=List.cons.inj g;rw[AR (by omega),AR (by omega),AR (by omega)];have j0:=i0 _ rfl;simp;omega
    .rw[AR (by omega),AW h.1]at g;obtain⟨rfl,rfl⟩:=List.cons.inj g;rw[AR (by omega),AW h.1];have j0:=i0 _ rfl;have j1:=i1 _ rfl;simp;omega
    .rw[AR (by omega),AR (by omega),AW h.1]at g;obtain⟨rfl,rfl⟩:=List.cons.inj g;rw[AR (by omega),AR (by omega),AW h.1];simp;omega
   by_cases E:n=1
   .rw[AW E];simp only[AW E]at shape;exact Xr B shape
   by_cases L:n=3
   .rw[AR E,AW L];simp only[AR E,AW L]at shape;exact Xr B shape
   by_cases Q:n=6
   .rw[AR E,AR L,AW Q];simp only[AR E,AR L,AW Q]at shape;exact Xr B shape
   .rw[AR E,AR L,AR Q];simp only[AR E,AR L,AR Q]at shape;exact Xr B shape
@[simp] theorem AYJ(q:B3):WG q q=some true:=by
 unfold WG;simp[Bi]
def Yz(v:Nat):Nat:=if v % 2=1 then (v / 2) ^^^ 3988292384 else v / 2
def WE:Nat->Nat->Nat|0,v=>v|k+1,v=>WE k (Yz v)
def Tq:Nat->List UInt8->Nat|v,[]=>v|v,x::l=>Tq (WE 8 (v ^^^ x.toNat)) l
def KJ(s:List UInt8):Nat:=Tq 4294967295 s ^^^ 4294967295
theorem pk{v:Nat}(h:v<2 ^ 32):Yz v<2 ^ 32:=by
 unfold Yz;split
 .exact Du (by omega) (by omega)
 .omega
theorem VC:∀k {v:Nat},v<2 ^ 32->WE k v<2 ^ 32|0,_,h=>h|k+1,_,h=>VC k (pk h)
theorem VD:∀(l:List UInt8) {v:Nat},v<2 ^ 32->Tq v l<2 ^ 32| [],_,h=>h|x::l,v,h=>VD l (VC 8 (Du h (by have:=x.toNat_lt;omega)))
theorem QW{a b:Nat}(c:a<2 ^ 63)(e:b<2 ^ 63):UY (a:Int) (b:Int)=((a ^^^ b:Nat):Int):=by
 unfold UY;rw[BitVec.toNat_xor,QB c,QB e];have:a ^^^ b<2 ^ 63:=Du c e;rw[UP (by omega) (by omega)]
theorem AP1{a b:Nat}(c:a<2 ^ 63)(e:b<2 ^ 63):dw (a:Int) (b:Int)=((a &&& b:Nat):Int):=by
 grind[QB,Nat.and_le_left,UP]
theorem AZw(a:Nat):D4 (a:Int) 1=((a / 2:Nat):Int):=by
 grind[IntKind.bits]
theorem eO{γ:Type}{F:(Int×Int->AA γ)->Int×Int->AA γ}{G:Int->AA γ}
 (hF:∀L (v k:Nat),v<2 ^ 32->k<=8->F L ((v:Int),(k:Int))=if k<8 then L (((Yz v:Nat):Int),((k+1:Nat):Int)) else G (v:Int)) :
 ∀(m k v n:Nat),k+m=8->m<n->v<2 ^ 32->BD F n ((v:Int),(k:Int))=G ((WE m v:Nat):Int)
 |0,k,v,0,_,h,_=>by omega|0,k,v,n+1,c,_,a=>by rw[EP,hF _ _ _ a (by omega),AR (by omega)];rfl|m+1,k,v,0,_,h,_=>by omega|m+1,k,v,n+1,c,h,a=>by
  rw[EP,hF _ _ _ a (by omega),AW (by omega),eO hF m (k+1) _ n (by omega) (by omega) (pk a)];rfl
theorem eM{s:List UInt8}{γ:Type}{F:(Int×Int->AA γ)->Int×Int->AA γ}{G:Int->AA γ}(e:s.length<2 ^ 62)
 (hF:∀L (v i:Nat),v<2 ^ 32->i<=s.length->F L ((v:Int),(i:Int))=match s[i]? with|none=>G (v:Int)|some x=>L (((WE 8 (v ^^^ x.toNat):Nat):Int),((i+1:Nat):Int))) :
 ∀(m i v n:Nat),i+m=s.length->m<n->v<2 ^ 32->BD F n ((v:Int),(i:Int))=G ((Tq v (s.drop i):Nat):Int)
 |0,i,v,0,_,h,_=>by omega|0,i,v,n+1,hi,_,c=>by
  rw[EP,hF _ _ _ c (by omega),DY (by omega),BA (by omega)];rfl
 |m+1,i,v,0,_,h,_=>by omega|m+1,i,v,n+1,hi,h,c=>by
  have a:i<s.length:=by omega
  rw[EP,hF _ _ _ c (by omega),AS a];dsimp only;rw[eM e hF m (i+1) _ n (by omega) (by omega) (VC 8 (Du c (by have:=s[i].toNat_lt;omega))),G6 a];rfl
theorem AEq{s:List UInt8}(B:s.length<2 ^ 62):az s=some ((KJ s:Nat):Int):=by
 unfold az;have:=eM (F:=fq s) (G:=fun v=>some (UY v 4294967295)) B ?_ s.length 0 4294967295 big (by omega) (JK _ (by omega)) (by omega)
 .refine Eq.trans this ?_;have e:=QW (a:=Tq 4294967295 s) (b:=4294967295) (by have:=VD s (v:=4294967295) (by omega);omega) (by omega);show some (UY _ ((4294967295:Nat):Int))=_;rw[Cs,e];rfl
 .intro L v i j hi;unfold fq Afd;simp only[BQ,AV,Jw];by_cases h:i<s.length
  .rw[AW (by omega),AS h,AB];dsimp only;have H:=s[i].toNat_lt;rw[A2 (by omega) (by omega),QW (by omega) (by omega)];have:=eO (F:=AdD L (i:Int)) (G:=fun v=>L (v,((i+1:Nat):Int))) ?_ 8 0 (v ^^^ s[i].toNat) big (by omega) (JK _ (by omega)) (Du j (by omega))
   .exact this
   .intro L5 v k j E;unfold AdD AdC Afc;simp only[BQ,AV];by_cases g:k<8
    .rw[AW (by omega),AW g];have q:Int.tmod (v:Int) 2=((v % 2:Nat):Int):=by rw[D6 (by omega)];omega
     have y:Int.tdiv (v:Int) 2=((v / 2:Nat):Int):=by rw[Gw (by omega)];omega
     rw[q,y,A2 (by omega) (by omega),A2 (n:=(k:Int)+1) (by omega) (by omega),Bi,show (3988292384:Int)=((3988292384:Nat):Int) from rfl,QW (by omega) (by omega)];unfold Yz;by_cases c:v % 2=1
     .rw[AW (by rw[c];rfl),AW c];rfl
     .rw[AR (by rw[beq_iff_eq];omega),AR c];rfl
    .rw[AR (by omega),AR g,A2 (by omega) (by omega)];rfl
  .rw[AR (by omega),DY (by omega)]
theorem ADh{s:List UInt8}(y:s.length<2 ^ 62):AAo s=some ((KJ s:Nat):Int):=by
 unfold AAo;have:=eM (F:=fF s) (G:=fun v=>some (UY v 4294967295)) y ?_ s.length 0 4294967295 big (by omega) (JK _ (by omega)) (by omega)
 .refine Eq.trans this ?_;have e:=QW (a:=Tq 4294967295 s) (b:=4294967295) (by have:=VD s (v:=4294967295) (by omega);omega) (by omega);show some (UY _ ((4294967295:Nat):Int))=_;rw[Cs,e];rfl
 .intro L v i j hi;unfold fF AfX;simp only[BQ,AV,Jw];by_cases h:i<s.length
  .rw[AW (by omega),AS h,AB];dsimp only;have E:=s[i].toNat_lt;rw[A2 (by omega) (by omega),QW (by omega) (by omega)];have:=eO (F:=Ac5 L (i:Int)) (G:=fun v=>L (v,((i+1:Nat):Int))) ?_ 8 0 (v ^^^ s[i].toNat) big (by omega) (JK _ (by omega)) (Du j (by omega))
   .exact this
   .intro L5 v k j B;unfold Ac5 Ac4 AfW;simp only[BQ,AV];by_cases g:k<8
    .rw[AW (by omega),AW g];have q:dw (v:Int) 1=((v % 2:Nat):Int):=by
      rw[show (1:Int)=((1:Nat):Int) from rfl,AP1 (by omega) (by omega),Nat.and_one_is_mod]
     rw[q,AZw,A2 (n:=(k:Int)+1) (by omega) (by omega),Bi,show (3988292384:Int)=((3988292384:Nat):Int) from rfl,QW (by omega) (by omega)];unfold Yz;by_cases c:v % 2=1
     .rw[AW (by rw[c];rfl),AW c];rfl
     .rw[AR (by rw[beq_iff_eq];omega),AR c];rfl
    .rw[AR (by omega),AR g,A2 (by omega) (by omega)];rfl
  .rw[AR (by omega),DY (by omega)]
def four(c:Int):List UInt8:=[toB (D4 c 24),toB (D4 c 16),toB (D4 c 8),toB c]
theorem HB(c:Int):(four c).length=4:=rfl
def Qq(q:Int)(b:List UInt8):Prop:=(1<=q/\q<=1000000)/\(1<=b.length/\b.length<=60)
instance (q:Int) (b:List UInt8):Decidable (Qq q b):=by unfold Qq;infer_instance
def frT(q:Int)(b:List UInt8):List UInt8:=four ((KJ (pN q++b):Nat):Int)++(pN q++b)
def frB(q:Int)(b:List UInt8):List UInt8:=if Qq q b then pN ((frT q b).length:Int)++frT q b else []
theorem Oa{q:Int}{b:List UInt8}(h:Qq q b):6<=(frT q b).length/\(frT q b).length<=69:=by
 have a:=PH q;have c:0<(pN q).length:=by unfold pN;rw[AW (by have:=h.1;omega)];exact IG _
 have:=h.2;simp only[frT,AK,HB];omega
theorem Xe{q:Int}{b:List UInt8}(h:Qq q b):7<=(frB q b).length/\(frB q b).length<=74:=by
 have:=Oa h;have a:=PH ((frT q b).length:Int);have c:0<(pN ((frT q b).length:Int)).length:=by unfold pN;rw[AW (by omega)];exact IG _
 unfold frB;rw[AW h,AK];omega
theorem ARD{q:Int}{b:List UInt8}(h:frB q b≠[]):Qq q b:=by
 grind[frB]
theorem Kz(q:Int)(b:List UInt8):AJx q b=some (frB q b):=by
 unfold AJx AdQ;simp only[de,AB,AV,BK,BP];by_cases c:1<=q/\q<=1000000
 .rw[decide_eq_true c,BP];by_cases g:(1:Int)<=b.length/\(b.length:Int)<=60
  .have a:Qq q b:=⟨c,by omega⟩;have j:=PH q;rw[decide_eq_true g,BP,TY,AB,B8 (by unfold Mn;omega),AEq (by rw[AK];omega),AB];unfold AA7;rw[AB,B8 (by simp only[AK,AI,AP];unfold Mn;omega),TY,AB];have e:[toB (D4 ((KJ (pN q++b):Nat):Int) 24),toB (D4 ((KJ (pN q++b):Nat):Int) 16),toB (D4 ((KJ (pN q++b):Nat):Int) 8),toB ((KJ (pN q++b):Nat):Int)]++(pN q++b)=frT q b:=rfl;rw[e];have:=PH ((frT q b).length:Int);have:=Oa a;rw[B8 (by unfold Mn;omega)];unfold frB;rw[AW a]
  .rw[decide_eq_false g,Bb];unfold frB;rw[AR (fun h=>g ⟨by have:=h.2;omega,by have:=h.2;omega⟩)]
 .rw[decide_eq_false c,Bb];unfold frB;rw[AR (fun h=>c h.1)]
theorem Q0(q:Int)(b:List UInt8):gX q b=some (frB q b):=by
 unfold gX gY;simp only[QT,AB,AV,BK,BP];by_cases c:1<=q/\q<=1000000
 .rw[decide_eq_true c,BP];by_cases g:(1:Int)<=b.length/\(b.length:Int)<=60
  .have a:Qq q b:=⟨c,by omega⟩;have j:=PH q;rw[decide_eq_true g,BP,KM,AB,B8 (by unfold lim;omega),ADh (by rw[AK];omega),AB];rw[B8 (by simp only[AK,AI,AP];unfold lim;omega),KM,AB];have e:[toB (D4 ((KJ (pN q++b):Nat):Int) 24),toB (D4 ((KJ (pN q++b):Nat):Int) 16),toB (D4 ((KJ (pN q++b):Nat):Int) 8),toB ((KJ (pN q++b):Nat):Int)]++(pN q++b)=frT q b:=rfl;rw[e];have:=PH ((frT q b).length:Int);have:=Oa a;rw[B8 (by unfold Mn;omega)];unfold frB;rw[AW a]
  .rw[decide_eq_false g,Bb];unfold frB;rw[AR (fun h=>g ⟨by have:=h.2;omega,by have:=h.2;omega⟩)]
 .rw[decide_eq_false c,Bb];unfold frB;rw[AR (fun h=>c h.1)]
end Lv.P
namespace Lv.P
open Lv Go
theorem Ib{α:Type}{l:List α}{i:Int}(a:0<=i)(c:i<l.length):∃x,at? l i=some x:=by
 obtain⟨n,rfl⟩:=AX a;exact⟨_,BG (by omega)⟩
theorem Xh{x:Int}(a:0<=x)(c:x<1152921504606846976):w64 (D4 (IntKind.u64.wrap (w64 x)) 1)=x / 2:=by
 obtain⟨n,rfl⟩:=AX a
 grind[A2,IntKind.wrap,IntKind.signed,IntKind.bits,AZw]
def Ln{α:Type}(n:Nat)(x:AA (List α)):Prop:=∃r,x=some r/\r.length=n
theorem Jx(k:Nat)(h:k<2 ^ 64):k<big:=JK k h
theorem AXj{α:Type}{cmp:α->α->AA Int}(g:∀x y,∃c,cmp x y=some c){l:List α}{a b:Int}(h0:0<=a)(ha:a<=l.length)(hb:b<=l.length)(hl:l.length<1099511627776):Ln l.length (DQ cmp l a b):=by
 unfold DQ;rw[A2 (by omega) (by omega)];refine Ks (fun x=>x.1.length=l.length/\a+1<=x.2/\x.2<=2*1099511627776) (fun x=>(b-x.2).toNat) (fun r:List α=>r.length=l.length) ?_ big (l,a+1) ⟨rfl,by dsimp only;omega,by dsimp only;omega⟩ (Jx _ (by dsimp only;omega));rintro L ⟨v,i⟩ ⟨E,hi,q⟩ H;dsimp only at E hi q H;unfold Dk;dsimp only;rw[BQ];split
 .rename_i Q;refine Ks (fun x=>x.1.length=l.length/\a<=x.2/\x.2<=i) (fun x=>(x.2-a).toNat) (fun r:List α=>r.length=l.length) ?_ big (v,i) ⟨E,by dsimp only;omega,by dsimp only;omega⟩ (Jx _ (by dsimp only;omega));rintro L' ⟨u,j⟩ ⟨e,S,B⟩ h;dsimp only at e S B h;have out:∀(u:List α),u.length=l.length->∃r,ER cmp L i u=some r/\r.length=l.length:=by
   intro u e;unfold ER;rw[A2 (by omega) (by omega)];exact H (u,i+1) ⟨e,by dsimp only;omega,by dsimp only;omega⟩ (by dsimp only;omega)
  unfold Dl;dsimp only;rw[BQ];split
  .rename_i X;have G:w64 (j-1)=j-1:=A2 (by omega) (by omega);obtain⟨Z,q1⟩:=Ib (l:=u) (i:=j) (by omega) (by omega);obtain⟨J,I⟩:=Ib (l:=u) (i:=j-1) (by omega) (by omega);obtain⟨c,O⟩:=g Z J;obtain⟨x3,Y⟩:=Ib (l:=List.set u j.toNat J) (i:=j-1) (by omega) (by rw[BJ];omega);simp only[G,q1,I,AB,O,AV];unfold Dj;rw[BQ];split
   .simp only[G,q1,I,Y,AB];exact h (_,j-1) ⟨by simp only[BJ];exact e,by dsimp only;omega,by dsimp only;omega⟩ (by dsimp only;omega)
   .rw[AV];exact out u e
  .rw[AV];unfold Dj;rw[Bb,AV];exact out u e
 .exact⟨v,rfl,E⟩
theorem AIx{α:Type}{cmp:α->α->AA Int}{l:List α}{a b n:Int}(G:0<=a)(H:0<=b)(I:a+n<=l.length)(J:b+n<=l.length)(O:l.length<1099511627776):Ln l.length (Ea cmp l a b n):=by
 unfold Ea;refine Ks (fun x=>x.1.length=l.length/\0<=x.2) (fun x=>(n-x.2).toNat) (fun r:List α=>r.length=l.length) ?_ big (l,0) ⟨rfl,by dsimp only;omega⟩ (Jx _ (by dsimp only;omega));rintro L ⟨v,i⟩ ⟨c,hi⟩ e;dsimp only at c hi e;unfold Ke;dsimp only;rw[BQ];split
 .rename_i q;have g:w64 (a+i)=a+i:=A2 (by omega) (by omega);have h:w64 (b+i)=b+i:=A2 (by omega) (by omega);have j:w64 (i+1)=i+1:=A2 (by omega) (by omega);obtain⟨Q,q1⟩:=Ib (l:=v) (i:=a+i) (by omega) (by omega);obtain⟨E,y⟩:=Ib (l:=v) (i:=b+i) (by omega) (by omega);obtain⟨S,B⟩:=Ib (l:=List.set v (a+i).toNat E) (i:=b+i) (by omega) (by rw[BJ];omega);simp only[g,h,j,q1,y,B,AB];exact e (_,i+1) ⟨by simp only[BJ];exact c,by dsimp only;omega⟩ (by dsimp only;omega)
 .exact⟨v,rfl,c⟩
theorem AZu{α:Type}{cmp:α->α->AA Int}{l:List α}{a m b:Int}(I:0<=a)(J:a<m)(O:m<b)(Q:b<=l.length)(S:l.length<1099511627776):Ln l.length (Hn cmp l a m b):=by
 unfold Hn;rw[A2 (n:=m-a) (by omega) (by omega),A2 (n:=b-m) (by omega) (by omega)];refine Ks (fun x=>x.1.length=l.length/\0<x.2.1/\x.2.1<=m-a/\0<x.2.2/\x.2.2<=b-m) (fun x=>(x.2.1+x.2.2).toNat) (fun r:List α=>r.length=l.length) ?_ big (l,m-a,b-m) ⟨rfl,by dsimp only;omega,by dsimp only;omega,by dsimp only;omega,by dsimp only;omega⟩ (Jx _ (by dsimp only;omega));rintro L ⟨v,i,j⟩ ⟨h,hi,y,H,B⟩ E;dsimp only at h hi y H B E;unfold My;dsimp only;have q:w64 (m-i)=m-i:=A2 (by omega) (by omega);have G:w64 (w64 (m+j)-i)=m+j-i:=by rw[A2 (n:=m+j) (by omega) (by omega)];exact A2 (by omega) (by omega)
 by_cases e:i=j
 .subst e;rw[show (i != i)=false from by simp,Bb,AV];unfold Mx;obtain⟨r,g,c⟩:=AIx (cmp:=cmp) (l:=v) (a:=m-i) (b:=m) (n:=i) (by omega) (by omega) (by omega) (by omega) (by omega);dsimp only;rw[q,g,AB];exact⟨r,rfl,c.trans h⟩
 .rw[show (i != j)=true from by simp[e],BP,BQ];split
  .obtain⟨r,g,c⟩:=AIx (cmp:=cmp) (l:=v) (a:=m-i) (b:=m) (n:=j) (by omega) (by omega) (by omega) (by omega) (by omega);rw[q,g,AB,A2 (n:=i-j) (by omega) (by omega)];exact E (r,i-j,j) ⟨c.trans h,by dsimp only;omega,by dsimp only;omega,by dsimp only;omega,by dsimp only;omega⟩ (by dsimp only;omega)
  .obtain⟨r,g,c⟩:=AIx (cmp:=cmp) (l:=v) (a:=m-i) (b:=m+j-i) (n:=i) (by omega) (by omega) (by omega) (by omega) (by omega);rw[q,G,g,AB,A2 (n:=j-i) (by omega) (by omega)];exact E (r,i,j-i) ⟨c.trans h,by dsimp only;omega,by dsimp only;omega,by dsimp only;omega,by dsimp only;omega⟩ (by dsimp only;omega)
def zt{α:Type}(k:Nat)(r:List α->Int->Int->Int->AA (List α)):Prop:=
 ∀(l:List α) (a m b:Int),0<=a->a<m->m<b->b<=l.length->l.length<1099511627776->b-a<=2 ^ k->Ln l.length (r l a m b)
theorem APg{α:Type}{cmp:α->α->AA Int}{k:Nat}{r:List α->Int->Int->Int->AA (List α)}(B:zt k r){l:List α}{a m b s:Int}(L:0<=a)(O:a<m)(Q:m<b)(S:b<=l.length)(Y:l.length<1099511627776)(X:b-a<=2 ^ (k+1))
 (G:a<=s) (H:s<=(a+b) / 2) (I:s<=m) (J:(a+b) / 2+m-b<=s):Ln l.length (H7 cmp r l a m b s):=by
 have q:w64 (D4 (IntKind.u64.wrap (w64 (a+b))) 1)=(a+b) / 2:=Xh (by omega) (by omega);have y:w64 (w64 ((a+b) / 2+m)-s)=(a+b) / 2+m-s:=by rw[A2 (n:=(a+b) / 2+m) (by omega) (by omega)];exact A2 (by omega) (by omega)
 have E:(2:Int) ^ (k+1)=2*2 ^ k:=by rw[Int.pow_succ];omega
 have c:∀v:List α,v.length=l.length->Ln l.length (GH cmp r a m b s v):=by
  intro v h;unfold GH IA;rw[q,y,BQ];split
  .rw[AV,BQ];split
   .obtain⟨x,j,e⟩:Ln v.length (r v ((a+b) / 2) ((a+b) / 2+m-s) b):=B v ((a+b) / 2) ((a+b) / 2+m-s) b (by omega) (by omega) (by omega) (by omega) (by omega) (by omega);rw[j,AB];exact⟨x,rfl,e.trans h⟩
   .exact⟨v,rfl,h⟩
  .rw[AV,Bb];exact⟨v,rfl,h⟩
 have g:∀v:List α,v.length=l.length->Ln l.length (GG cmp r a m b s v):=by
  intro v h;unfold GG H9;rw[q,BQ];split
  .rw[AV,BQ];split
   .obtain⟨x,j,e⟩:Ln v.length (r v a s ((a+b) / 2)):=B v a s ((a+b) / 2) (by omega) (by omega) (by omega) (by omega) (by omega) (by omega);rw[j,AB,AV];exact c x (e.trans h)
   .rw[AV];exact c v h
  .rw[AV,Bb,AV];exact c v h
 unfold H7 H8;rw[q,y,BQ];split
 .rw[AV,BQ];split
  .obtain⟨x,j,e⟩:=AZu (cmp:=cmp) (l:=l) (a:=s) (m:=m) (b:=(a+b) / 2+m-s) (by omega) (by omega) (by omega) (by omega) (by omega);rw[j,AB,AV];exact g x e
  .rw[AV];exact g l rfl
 grind[AV,Bb]
theorem AMo{α:Type}{cmp:α->α->AA Int}(g:∀x y,∃c,cmp x y=some c){k:Nat}{r:List α->Int->Int->Int->AA (List α)}(hr:zt k r):zt (k+1) (Fi cmp r):=by
 intro l a m b h0 h1 h2 h3 hl hk;show Ln l.length (Fi cmp r l a m b);have e0:w64 (D4 (IntKind.u64.wrap (w64 (a+b))) 1)=(a+b) / 2:=Xh (by omega) (by omega);unfold Fi;rw[A2 (n:=m-a) (by omega) (by omega)];by_cases c1:m-a=1
 .rw[show (m-a==1)=true from by simp[c1],BP];refine Ks (fun x=>m<=x.1/\x.1<=x.2/\x.2<=b) (fun x=>(x.2-x.1).toNat) (fun r:List α=>r.length=l.length) ?_ big (m,b) ⟨by dsimp only;omega,by dsimp only;omega,by dsimp only;omega⟩ (Jx _ (by dsimp only;omega));rintro L ⟨i,j⟩ ⟨hi,H,X⟩ h;dsimp only at hi H X h;unfold LG;dsimp only;rw[BQ];split
  .have eh:w64 (D4 (IntKind.u64.wrap (w64 (i+j))) 1)=(i+j) / 2:=Xh (by omega) (by omega);have e:w64 ((i+j) / 2+1)=(i+j) / 2+1:=A2 (by omega) (by omega);obtain⟨G,q1⟩:=Ib (l:=l) (i:=(i+j) / 2) (by omega) (by omega);obtain⟨J,E⟩:=Ib (l:=l) (i:=a) (by omega) (by omega);obtain⟨c,O⟩:=g G J;simp only[eh,e,q1,E,AB,O];rw[BQ];split
   .exact h ((i+j) / 2+1,j) ⟨by dsimp only;omega,by dsimp only;omega,by dsimp only;omega⟩ (by dsimp only;omega)
   .exact h (i,(i+j) / 2) ⟨by dsimp only;omega,by dsimp only;omega,by dsimp only;omega⟩ (by dsimp only;omega)
  .rw[AV];unfold LB;refine Ks (fun x=>x.1.length=l.length/\a<=x.2) (fun x=>(i-1-x.2).toNat) (fun r:List α=>r.length=l.length) ?_ big (l,a) ⟨rfl,by dsimp only;omega⟩ (Jx _ (by dsimp only;omega));rintro L' ⟨u,q⟩ ⟨I,Y⟩ B;dsimp only at I Y B;unfold LH Gs;dsimp only;rw[A2 (n:=i-1) (by omega) (by omega),BQ];split
   .have Q:w64 (q+1)=q+1:=A2 (by omega) (by omega);obtain⟨G,q1⟩:=Ib (l:=u) (i:=q+1) (by omega) (by omega);obtain⟨J,E⟩:=Ib (l:=u) (i:=q) (by omega) (by omega);obtain⟨x3,q3⟩:=Ib (l:=List.set u q.toNat G) (i:=q+1) (by omega) (by rw[BJ];omega);simp only[Q,q1,E,q3,AB];exact B (_,q+1) ⟨by simp only[BJ];exact I,by dsimp only;omega⟩ (by dsimp only;omega)
   .rw[AV];exact⟨u,rfl,I⟩
 .rw[show (m-a==1)=false from by simp[c1],Bb,AV];unfold LC;rw[A2 (n:=b-m) (by omega) (by omega)];by_cases c2:b-m=1
  .rw[show (b-m==1)=true from by simp[c2],BP];refine Ks (fun x=>a<=x.1/\x.1<=x.2/\x.2<=m) (fun x=>(x.2-x.1).toNat) (fun r:List α=>r.length=l.length) ?_ big (a,m) ⟨by dsimp only;omega,by dsimp only;omega,by dsimp only;omega⟩ (Jx _ (by dsimp only;omega));rintro L ⟨i,j⟩ ⟨hi,H,X⟩ h;dsimp only at hi H X h;unfold LI;dsimp only;rw[BQ];split
   .have eh:w64 (D4 (IntKind.u64.wrap (w64 (i+j))) 1)=(i+j) / 2:=Xh (by omega) (by omega);have e:w64 ((i+j) / 2+1)=(i+j) / 2+1:=A2 (by omega) (by omega);obtain⟨G,q1⟩:=Ib (l:=l) (i:=(i+j) / 2) (by omega) (by omega);obtain⟨J,E⟩:=Ib (l:=l) (i:=m) (by omega) (by omega);obtain⟨c,O⟩:=g J G;simp only[eh,e,q1,E,AB,O];cases S:decide (c<0)
    .rw[show (!false)=true from rfl,BP];exact h ((i+j) / 2+1,j) ⟨by dsimp only;omega,by dsimp only;omega,by dsimp only;omega⟩ (by dsimp only;omega)
    .rw[show (!true)=false from rfl,Bb];exact h (i,(i+j) / 2) ⟨by dsimp only;omega,by dsimp only;omega,by dsimp only;omega⟩ (by dsimp only;omega)
   .rw[AV];unfold LD;refine Ks (fun x=>x.1.length=l.length/\x.2<=m/\i<=x.2) (fun x=>(x.2-i).toNat) (fun r:List α=>r.length=l.length) ?_ big (l,m) ⟨rfl,by dsimp only;omega,by dsimp only;omega⟩ (Jx _ (by dsimp only;omega));rintro L' ⟨u,q⟩ ⟨I,Y,Z⟩ B;dsimp only at I Y Z B;unfold LJ Gs;dsimp only;rw[BQ];split
    .have Q:w64 (q-1)=q-1:=A2 (by omega) (by omega);obtain⟨G,q1⟩:=Ib (l:=u) (i:=q-1) (by omega) (by omega);obtain⟨J,E⟩:=Ib (l:=u) (i:=q) (by omega) (by omega);obtain⟨x3,q3⟩:=Ib (l:=List.set u q.toNat G) (i:=q-1) (by omega) (by rw[BJ];omega);simp only[Q,q1,E,q3,AB];exact B (_,q-1) ⟨by simp only[BJ];exact I,by dsimp only;omega,by dsimp only;omega⟩ (by dsimp only;omega)
    .rw[AV];exact⟨u,rfl,I⟩
  .rw[show (b-m==1)=false from by simp[c2],Bb,AV];have key:∀s t:Int,a<=s->s<=t->t<=(a+b) / 2->t<=m->(a+b) / 2+m-b<=s->Ln l.length (GD cmp r l a m b (s,t)):=by
    intro s t p1 p2 p3 p4 p5;unfold GD;refine Ks (fun x=>a<=x.1/\x.1<=x.2/\x.2<=(a+b) / 2/\x.2<=m/\(a+b) / 2+m-b<=x.1) (fun x=>(x.2-x.1).toNat) (fun r:List α=>r.length=l.length) ?_ big (s,t) ⟨p1,p2,p3,p4,p5⟩ (Jx _ (by dsimp only;omega));rintro L ⟨i,j⟩ ⟨g1,g2,g3,g4,g5⟩ h;dsimp only at g1 g2 g3 g4 g5 h;unfold Kf;dsimp only;rw[BQ];split
    .have eh:w64 (D4 (IntKind.u64.wrap (w64 (i+j))) 1)=(i+j) / 2:=Xh (by omega) (by omega);have e:w64 ((i+j) / 2+1)=(i+j) / 2+1:=A2 (by omega) (by omega);have ep:w64 (w64 (w64 ((a+b) / 2+m)-1)-(i+j) / 2)=(a+b) / 2+m-1-(i+j) / 2:=by
      rw[A2 (n:=(a+b) / 2+m) (by omega) (by omega),A2 (n:=(a+b) / 2+m-1) (by omega) (by omega)];exact A2 (by omega) (by omega)
     obtain⟨G,q1⟩:=Ib (l:=l) (i:=(i+j) / 2) (by omega) (by omega);obtain⟨J,E⟩:=Ib (l:=l) (i:=(a+b) / 2+m-1-(i+j) / 2) (by omega) (by omega);obtain⟨c,O⟩:=g J G;simp only[e0,eh,e,ep,q1,E,AB,O];cases S:decide (c<0)
     .rw[show (!false)=true from rfl,BP];exact h ((i+j) / 2+1,j) ⟨by dsimp only;omega,by dsimp only;omega,by dsimp only;omega,by dsimp only;omega,by dsimp only;omega⟩ (by dsimp only;omega)
     .rw[show (!true)=false from rfl,Bb];exact h (i,(i+j) / 2) ⟨by dsimp only;omega,by dsimp only;omega,by dsimp only;omega,by dsimp only;omega,by dsimp only;omega⟩ (by dsimp only;omega)
    .rw[AV];exact APg hr h0 h1 h2 h3 hl hk g1 (by omega) (by omega) g5
   unfold LF;rw[e0,BQ];split
   .rw[AV,A2 (n:=(a+b) / 2+m) (by omega) (by omega),A2 (n:=(a+b) / 2+m-b) (by omega) (by omega)];exact key _ _ (by omega) (by omega) (by omega) (by omega) (by omega)
   .rw[AV];exact key _ _ (by omega) (by omega) (by omega) (by omega) (by omega)
theorem AEu{α:Type}{cmp:α->α->AA Int}(g:∀x y,∃c,cmp x y=some c){mrg:List α->Int->Int->Int->AA (List α)}(Q:∀(l:List α) (a m b:Int),0<=a->a<m->m<b->b<=l.length->l.length<=40->Ln l.length (mrg l a m b)){l:List α}(Y:l.length<=40):Ln l.length (GU cmp mrg l (l.length:Int)):=by
 unfold GU;have O:∀v:List α,v.length=l.length->Ln l.length (BD (F4 cmp mrg (l.length:Int)) big (v,20)):=by
  intro v X;refine Ks (fun x=>x.1.length=l.length/\(x.2=20\/x.2=40)) (fun x=>(40-x.2).toNat) (fun r:List α=>r.length=l.length) ?_ big (v,20) ⟨X,.inl rfl⟩ (Jx _ (by dsimp only;omega));rintro L ⟨u,s⟩ ⟨j,S⟩ G;dsimp only at j S G;unfold F4;dsimp only;rw[BQ];split
  .have E:s=20:=by omega
   subst E;have out:∀w:List α,w.length=l.length->Ln l.length (Hi cmp mrg L 20 w):=by
    intro w B;unfold Hi;rw[A2 (by omega) (by omega)];exact G (w,20*2) ⟨B,.inr rfl⟩ (by dsimp only;omega)
   rw[A2 (n:=2*20) (by omega) (by omega)];refine Ks (fun x=>x.1.length=l.length/\x.2.2=x.2.1+40/\(x.2.1=0\/x.2.1=40)) (fun x=>(40-x.2.1).toNat) (fun r:List α=>r.length=l.length) ?_ big (u,0,2*20) ⟨j,by dsimp only;omega,.inl rfl⟩ (Jx _ (by dsimp only;omega));rintro L' ⟨w,a,b⟩ ⟨B,h,I⟩ H;dsimp only at B h I H;unfold M0;dsimp only;rw[BQ];split
   .obtain⟨x,q,e⟩:=Q w a (a+20) b (by omega) (by omega) (by omega) (by omega) (by omega);rw[A2 (n:=a+20) (by omega) (by omega),q,AB,A2 (n:=2*20) (by omega) (by omega),A2 (n:=b+2*20) (by omega) (by omega)];exact H (x,b,b+2*20) ⟨e.trans B,by dsimp only;omega,by dsimp only;omega⟩ (by dsimp only;omega)
   .rw[AV];unfold Mz;dsimp only;rw[A2 (n:=a+20) (by omega) (by omega),BQ];split
    .obtain⟨x,q,e⟩:=Q w a (a+20) (l.length:Int) (by omega) (by omega) (by omega) (by omega) (by omega);rw[q,AB,AV];exact out x (e.trans B)
    .rw[AV];exact out w B
  .exact⟨u,rfl,j⟩
 have key:Ln l.length (BD (F3 cmp mrg (l.length:Int)) big (l,0,20)):=by
  refine Ks (fun x=>x.1.length=l.length/\0<=x.2.1/\x.2.1<=(l.length:Int)/\x.2.2=x.2.1+20) (fun x=>(60-x.2.1).toNat) (fun r:List α=>r.length=l.length) ?_ big (l,0,20) ⟨rfl,by dsimp only;omega,by dsimp only;omega,by dsimp only;omega⟩ (Jx _ (by dsimp only;omega));rintro L ⟨u,a,b⟩ ⟨j,I,J,h⟩ G;dsimp only at j I J h G;unfold F3;dsimp only;rw[BQ];split
  .obtain⟨x,q,e⟩:=AXj g (l:=u) (a:=a) (b:=b) (by omega) (by omega) (by omega) (by omega);rw[q,AB,A2 (n:=b+20) (by omega) (by omega)];exact G (x,b,b+20) ⟨e.trans j,by dsimp only;omega,by dsimp only;omega,rfl⟩ (by dsimp only;omega)
  .rw[AV];unfold Hh;dsimp only;obtain⟨x,q,e⟩:=AXj g (l:=u) (a:=a) (b:=(l.length:Int)) (by omega) (by omega) (by omega) (by omega);rw[q,AB];exact O x (e.trans j)
 exact key
theorem tX:∀k,zt (α:=Au) k (fun l a m b=>(Ro k).d (l,a,m,b,(),()))
 |0=>by
  intro l a m b c e g j B q
  grind
 |k+1=>AMo (fun x y=>(P2 x y).imp fun _ h=>h.1) (tX k)
theorem ADw{l:List Au}{a m b:Int}(c:0<=a)(e:a<m)(g:m<b)(h:b<=l.length)(j:l.length<=40):Ln l.length (AQO l a m b):=
 tX 7 l a m b c e g h (by omega) (by have:(2:Int) ^ 7=128:=rfl;omega)
theorem oO{l:List Au}(c:l.length<=40):Ln l.length (pn l):=by
 unfold pn AJh;obtain⟨x,e,a⟩:=AEu (fun x y=>(P2 x y).imp fun _ h=>h.1) (mrg:=AQO) (fun _ _ _ _=>ADw) c;rw[e,AB];exact⟨x,rfl,a⟩
theorem AMn:∀k,zt (α:=BY) k (fun l a m b=>(Rp k).d (l,a,m,b,(),()))
 |0=>by
  intro l a m b c e g j B q
  grind
 |k+1=>AMo (fun x y=>(NR x y).imp fun _ h=>h.1) (AMn k)
theorem ANn{l:List BY}{a m b:Int}(c:0<=a)(e:a<m)(g:m<b)(h:b<=l.length)(j:l.length<=40):Ln l.length (AQW l a m b):=
 AMn 7 l a m b c e g h (by omega) (by have:(2:Int) ^ 7=128:=rfl;omega)
theorem zS{l:List BY}(c:l.length<=40):Ln l.length (qC l):=by
 unfold qC AJl;obtain⟨x,e,a⟩:=AEu (fun x y=>(NR x y).imp fun _ h=>h.1) (mrg:=AQW) (fun _ _ _ _=>ANn) c;rw[e,AB];exact⟨x,rfl,a⟩
end Lv.P
